import PyProof.Rows.All
import Wide.All
import OpenK.AllK
import Wide.FinOn
import HandS.ForMost
import HandS.Evl
import HandS.SortInts
import HandS.Wide
import HandS.More
import HandS.IsInst
import HandS.Defaults
import HandS.HeadHook1
import HandS.HeadHook2
import KE.DataEq
import HandS.HeadHook3
import HandS.Exc
import HandS.Conv
import KE.KSuper
import KE.KExcSuper
import HandS.ExcInit
import HandS.Nested
import KE.KExcInit
import HandS.ExcField
import HandS.ExcIs
import HandS.ExcOwn
import HandS.TryMany
import HandS.CallSlots
import HandS.Property
import HandS.Style
import HandS.ClsMeth
import HandS.IterNext
import HandS.IterVal
import HandS.OwnIter
import KE.KOwnIter
import HandS.Slots
import HandS.SlotsOwn
import HandS.DictComp
import PyProof.StrBlock2
import HandS.Text
import HandS.FStr
import HandS.Zip
import KE.KCallOwn
import HandS.CallLocal
import HandS.Finally
import KE.KStateDown
import Lean
import HandS.WordsExc
import HandS.Head0
import HandS.Head1
import HandS.Head2
import HandS.HeadEnd
import KE.KxLen
import PySem.Challenge.RW_askedpoints_k13_table_askers
set_option Elab.async false
set_option linter.all false
set_option maxRecDepth 100000
/-! Sim: what a reading does, told by plain Lean data (mirrors). -/
namespace Sim
open PySem L2 Evl

/-! ### heaps: the data heap G below the heap H -/
structure Up (G H G2 H2 : Hp) : Prop where
  gg : Ex G G2
  gh : Ex G2 H2
  hh : Ex H H2
  nw : ∀ a, H a ≠ none → G a = none → G2 a = none
theorem Up.refl {G H : Hp} (e : Ex G H) : Up G H G H := ⟨Ex.refl _, e, Ex.refl _, fun _ _ h => h⟩
theorem Up.trans {G H G1 H1 G2 H2 : Hp} (a : Up G H G1 H1) (b : Up G1 H1 G2 H2) : Up G H G2 H2 :=
  ⟨a.gg.trans b.gg, b.gh, a.hh.trans b.hh, fun x h1 h2 => b.nw x (fun z => h1 (by
    cases q : H x with
    | none => rfl
    | some o => rw [a.hh x o q] at z; cases z)) (a.nw x h1 h2)⟩
/-- nothing new is data -/
theorem Up.same {G H H2 : Hp} (e : Ex G H) (h : Ex H H2) : Up G H G H2 := ⟨Ex.refl _, e.trans h, h, fun _ _ q => q⟩
theorem Up.lift {G Gw H G2 H2 : Hp} (u : Up G H G2 H2) (e1 : Ex G Gw) (e2 : Ex Gw H) : ∃ G3, Up Gw H G3 H2 ∧ Ex G2 G3 := by
  refine ⟨fun a => match H a with | none => G2 a | some _ => Gw a, ⟨fun a o h => ?_, fun a o h => ?_, u.hh, fun a h1 h2 => ?_⟩, fun a o h => ?_⟩
  · show (match H a with | none => G2 a | some _ => Gw a) = some o
    rw [e2 a o h]; exact h
  · have h' : (match H a with | none => G2 a | some _ => Gw a) = some o := h
    cases q : H a with
    | none => rw [q] at h'; exact u.gh a o h'
    | some o' =>
      rw [q] at h'
      exact u.hh a o (e2 a o h')
  · show (match H a with | none => G2 a | some _ => Gw a) = none
    cases q : H a with
    | none => exact absurd q h1
    | some o' => exact h2
  · show (match H a with | none => G2 a | some _ => Gw a) = some o
    cases q : H a with
    | none => exact h
    | some o' =>
      show Gw a = some o
      cases r : G a with
      | none => rw [u.nw a (by rw [q]; simp) r] at h; cases h
      | some o2 =>
        have := u.gg a o2 r
        rw [h] at this
        cases this
        exact e1 a _ r
theorem Up.lay {G H : Hp} {p : Addr} {o : HO} (e : Ex G H) (n : H p = none) : Up G H (upd G p o) (upd H p o) := by
  refine ⟨Ex.new (fresh_back e n), fun a u h => ?_, Ex.new n, fun a h1 h2 => ?_⟩
  · by_cases q : a = p
    · subst q; rw [upd_same] at h ⊢; exact h
    · rw [upd_ne q] at h ⊢; exact e a u h
  · by_cases q : a = p
    · subst q; exact absurd n h1
    · rw [upd_ne q]; exact h2

/-! ### data as it stands in a heap -/
structure Rep (α : Type) where
  r : Hp → V → α → Prop
  mono : ∀ {H H' : Hp} {v : V} {x : α}, Ex H H' → r H v x → r H' v x
/-- told by the value alone -/
def Rep.Sc {α : Type} (R : Rep α) : Prop := ∀ {H H' : Hp} {v : V} {x : α}, R.r H v x → R.r H' v x

def rI : Rep Int := ⟨fun _ v x => v = .int x, fun _ h => h⟩
def rB : Rep Bool := ⟨fun _ v x => v = .bl x, fun _ h => h⟩
def rS : Rep Str := ⟨fun _ v x => v = .str x, fun _ h => h⟩
def rU : Rep Unit := ⟨fun _ v _ => v = .non, fun _ h => h⟩
def rA : Rep Addr := ⟨fun _ v a => v = .ref a, fun _ h => h⟩
theorem scA : rA.Sc := fun h => h
theorem scI : rI.Sc := fun h => h
theorem scB : rB.Sc := fun h => h
theorem scS : rS.Sc := fun h => h
theorem scU : rU.Sc := fun h => h
def rL {α : Type} (R : Rep α) : Rep (List α) := ⟨fun H v xs => ∃ a vs, v = .ref a ∧ H a = some (.lst vs) ∧ Paired (R.r H) vs xs,
  fun e ⟨a, vs, h1, h2, h3⟩ => ⟨a, vs, h1, e a _ h2, Paired.mapP h3 fun _ _ => R.mono e⟩⟩
def rT {α : Type} (R : Rep α) : Rep (List α) := ⟨fun H v xs => ∃ a vs, v = .ref a ∧ H a = some (.tup vs) ∧ Paired (R.r H) vs xs,
  fun e ⟨a, vs, h1, h2, h3⟩ => ⟨a, vs, h1, e a _ h2, Paired.mapP h3 fun _ _ => R.mono e⟩⟩
def rP {α β : Type} (R : Rep α) (S : Rep β) : Rep (α × β) := ⟨fun H v p => ∃ a x y, v = .ref a ∧ H a = some (.tup [x, y]) ∧ R.r H x p.1 ∧ S.r H y p.2,
  fun e ⟨a, x, y, h1, h2, h3, h4⟩ => ⟨a, x, y, h1, e a _ h2, R.mono e h3, S.mono e h4⟩⟩
def rO {α : Type} (R : Rep α) : Rep (Option α) := ⟨fun H v o => match o with | none => v = .non | some x => R.r H v x,
  fun {H H' v o} e h => by cases o with | none => exact h | some x => exact R.mono e h⟩

theorem pr_get {R : V → α → Prop} : ∀ {vs : List V} {xs : List α} {i : Nat} {x : α}, Paired R vs xs → xs[i]? = some x → ∃ v, vs[i]? = some v ∧ R v x
  | _, _, _, _, .nil, e => by simp at e
  | _, _, 0, _, .cons r _, e => by simp at e; subst e; exact ⟨_, rfl, r⟩
  | _, _, i + 1, x, .cons _ t, e => by
    obtain ⟨u, h1, h2⟩ := pr_get (i := i) (x := x) t (by simpa using e)
    exact ⟨u, by simpa using h1, h2⟩
theorem pr_get' {R : V → α → Prop} : ∀ {vs : List V} {xs : List α} {i : Nat} {v : V}, Paired R vs xs → vs[i]? = some v → ∃ x, xs[i]? = some x ∧ R v x
  | _, _, _, _, .nil, e => by simp at e
  | _, _, 0, _, .cons r _, e => by simp at e; subst e; exact ⟨_, rfl, r⟩
  | _, _, i + 1, x, .cons _ t, e => by
    obtain ⟨u, h1, h2⟩ := pr_get' (i := i) (v := x) t (by simpa using e)
    exact ⟨u, by simpa using h1, h2⟩
theorem pr_app {R : V → α → Prop} : ∀ {vs : List V} {xs : List α} {vs' : List V} {xs' : List α}, Paired R vs xs → Paired R vs' xs' → Paired R (vs ++ vs') (xs ++ xs')
  | _, _, _, _, .nil, h => h
  | _, _, _, _, .cons r t, h => .cons r (pr_app t h)

/-! ### mirrors that may lack an answer -/
theorem bindS {α β : Type} {m : Option α} {f : α → Option β} {r : β} (h : (m >>= f) = some r) : ∃ x, m = some x ∧ f x = some r := by
  cases m with
  | none => exact absurd h (by simp)
  | some x => exact ⟨x, rfl, h⟩

/-! ### expressions -/
/-- te reads as m: the data heap is G, W is known to stand as well (cells that are only read) -/
def E {α : Type} (te : TE) (σ : L2.St) (G W : Hp) (R : Rep α) (m : Option α) : Prop :=
  ∀ x, m = some x → ∀ H, Ex G H → Ex W H → ∀ Q : VK, (∀ v H2 G2, Up G H G2 H2 → R.r G2 v x → Q v H2) → te σ H Q
def ET (tt : TT) (σ : L2.St) (W : Hp) (m : Option Bool) : Prop :=
  ∀ b, m = some b → ∀ H, Ex W H → ∀ Q : Bool → Hp → Prop, (∀ H2, Ex H H2 → Q b H2) → tt σ H Q
structure AR (ι : Type) where
  r : Hp → List V → ι → Prop
  mono : ∀ {H H' : Hp} {v : List V} {x : ι}, Ex H H' → r H v x → r H' v x
def aN : AR Unit := ⟨fun _ vs _ => vs = [], fun _ h => h⟩
def aC {α ι : Type} (R : Rep α) (A : AR ι) : AR (α × ι) := ⟨fun H vs p => ∃ v ws, vs = v :: ws ∧ R.r H v p.1 ∧ A.r H ws p.2,
  fun e ⟨v, ws, h1, h2, h3⟩ => ⟨v, ws, h1, R.mono e h2, A.mono e h3⟩⟩
def EA {ι : Type} (ta : TA) (σ : L2.St) (G W : Hp) (A : AR ι) (m : Option ι) : Prop :=
  ∀ x, m = some x → ∀ H, Ex G H → Ex W H → ∀ Q : List V → Hp → Prop, (∀ vs H2 G2, Up G H G2 H2 → A.r G2 vs x → Q vs H2) → ta σ H Q
section
variable {K : PySem.W.Frag} {σ : L2.St} {G H G' W W' : Hp} {ta tb te : TE} {t u : TT} {α β γ ι : Type} {R : Rep α} {S : Rep β} {T : Rep γ} {A : AR ι}
theorem E.mono {m : Option α} (e : Ex G G') (e' : Ex W W') (h : E te σ G W R m) : E te σ G' W' R m := fun x hx H e1 e2 Q q =>
  h x hx H (e.trans e1) (e'.trans e2) Q fun v H2 G2 up r => by
    obtain ⟨G3, u3, e3⟩ := up.lift e e1
    exact q v H2 G3 u3 (R.mono e3 r)
theorem ET.mono {m : Option Bool} (e : Ex W W') (h : ET t σ W m) : ET t σ W' m := fun x hx H e1 Q q => h x hx H (e.trans e1) Q q
theorem EA.mono {ta : TA} {m : Option ι} (e : Ex G G') (e' : Ex W W') (h : EA ta σ G W A m) : EA ta σ G' W' A m := fun x hx H e1 e2 Q q =>
  h x hx H (e.trans e1) (e'.trans e2) Q fun v H2 G2 up r => by
    obtain ⟨G3, u3, e3⟩ := up.lift e e1
    exact q v H2 G3 u3 (A.mono e3 r)
/-- a value that hangs on no heap -/
theorem E.s {m : Option α} (sc : R.Sc) (h : E te σ W W R m) : E te σ G W R m := fun x hx H e1 e2 Q q =>
  h x hx H e2 e2 Q fun v H2 G2 up r => q v H2 G (Up.same e1 up.hh) (sc r)
theorem e_var {i : Nat} {v : V} {x : α} (hi : σ[i]? = some (some v)) (hv : R.r G v x) : E (tVar i) σ G W R (some x) := fun y hy H e _ Q q => by
  cases hy
  exact ⟨v, hi, q v H G (Up.refl e) hv⟩
theorem e_c {v : V} {x : α} (hv : R.r G v x) : E (tC v) σ G W R (some x) := fun y hy H e _ Q q => by
  cases hy
  exact q v H G (Up.refl e) hv
theorem e_int {i : Int} : E (tC (.int i)) σ G W rI (some i) := e_c rfl
theorem e_bl {i : Bool} : E (tC (.bl i)) σ G W rB (some i) := e_c rfl
theorem e_str {i : Str} : E (tC (.str i)) σ G W rS (some i) := e_c rfl
theorem e_non : E (tC .non) σ G W rU (some ()) := e_c rfl
/-- an operator on values, as a mirror -/
def RR (r : R2) (R : Rep α) (S : Rep β) (T : Rep γ) (f : α → β → Option γ) : Prop :=
  ∀ v w x y z H G, R.r G v x → S.r G w y → f x y = some z → Ex G H → ∀ Q : VK, (∀ u H2 G2, Up G H G2 H2 → T.r G2 u z → Q u H2) → r v w H Q
theorem e_op {r : R2} {f : α → β → Option γ} {ma : Option α} {mb : Option β} (hr : RR r R S T f) (ha : E ta σ G W R ma) (hb : E tb σ G W S mb) :
    E (tOp r ta tb) σ G W T (ma >>= fun x => mb >>= fun y => f x y) := fun z hz H e e' Q q => by
  obtain ⟨x, hx, hz⟩ := bindS hz
  obtain ⟨y, hy, hz⟩ := bindS hz
  refine ha x hx H e e' _ fun v H1 G1 u1 r1 => ?_
  refine (hb.mono u1.gg (e'.trans u1.hh)) y hy H1 u1.gh (Ex.refl _) _ fun w H2 G2 u2 r2 => ?_
  exact hr v w x y z H2 G2 (R.mono u2.gg r1) r2 hz u2.gh Q fun u H3 G3 u3 r3 => q u H3 G3 ((u1.trans u2).trans u3) r3
theorem rr_I0 {g : Int → Int → V} {f : Int → Int → γ} (h : ∀ i j H, T.r H (g i j) (f i j)) : RR (rI0 g) rI rI T (fun i j => some (f i j)) := fun v w x y z H G hv hw hz e Q q => by
  cases hv; cases hw; cases hz
  exact ⟨x, y, rfl, rfl, q _ H G (Up.refl e) (h x y G)⟩
theorem rr_I {C : Int → Int → Prop} {g : Int → Int → V} {f : Int → Int → Option γ} (h : ∀ i j z, f i j = some z → C i j ∧ ∀ H, T.r H (g i j) z) : RR (L2.rI C g) rI rI T f := fun v w x y z H G hv hw hz e Q q => by
  cases hv; cases hw
  obtain ⟨h1, h2⟩ := h x y z hz
  exact ⟨x, y, rfl, rfl, h1, q _ H G (Up.refl e) (h2 G)⟩
end
end Sim

namespace Sim
open PySem L2 Evl

/-! ### cells: objects that change -/
structure CP where
  p : Hp → HO → Prop
  mono : ∀ {G G' : Hp} {o : HO}, Ex G G' → p G o → p G' o
def cL {α : Type} (R : Rep α) (xs : List α) : CP := ⟨fun G o => ∃ vs, o = .lst vs ∧ Paired (R.r G) vs xs, fun e ⟨vs, h1, h2⟩ => ⟨vs, h1, Paired.mapP h2 fun _ _ => R.mono e⟩⟩
abbrev Cs := List (Addr × CP)
structure Wd (G H : Hp) (cs : Cs) : Prop where
  ex : Ex G H
  at_ : ∀ c ∈ cs, G c.1 = none ∧ ∃ o, H c.1 = some o ∧ c.2.p G o
  nd : (cs.map (·.1)).Nodup
theorem Wd.nil {G H : Hp} (e : Ex G H) : Wd G H [] := ⟨e, fun _ h => absurd h List.not_mem_nil, List.nodup_nil⟩
section
variable {G H G2 H2 : Hp} {cs : Cs} {l : Addr} {cp cp' : CP}
theorem Wd.head (w : Wd G H ((l, cp) :: cs)) : G l = none ∧ ∃ o, H l = some o ∧ cp.p G o := w.at_ _ (List.mem_cons_self ..)
theorem Wd.tail (w : Wd G H ((l, cp) :: cs)) : Wd G H cs := ⟨w.ex, fun c h => w.at_ c (List.mem_cons_of_mem _ h), (List.nodup_cons.mp w.nd).2⟩
theorem Wd.up (w : Wd G H cs) (u : Up G H G2 H2) : Wd G2 H2 cs := ⟨u.gh, fun c h => by
  obtain ⟨h1, o, h2, h3⟩ := w.at_ c h
  exact ⟨u.nw _ (by rw [h2]; simp) h1, o, u.hh _ _ h2, c.2.mono u.gg h3⟩, w.nd⟩
theorem Wd.sc (w : Wd G H cs) (u : Ex H H2) : Wd G H2 cs := w.up (Up.same w.ex u)
theorem Wd.swap {l' : Addr} (w : Wd G H ((l, cp) :: (l', cp') :: cs)) : Wd G H ((l', cp') :: (l, cp) :: cs) := ⟨w.ex, fun c h => w.at_ c (by
  rcases List.mem_cons.mp h with h | h
  · subst h; exact List.mem_cons_of_mem _ (List.mem_cons_self ..)
  · rcases List.mem_cons.mp h with h | h
    · subst h; exact List.mem_cons_self ..
    · exact List.mem_cons_of_mem _ (List.mem_cons_of_mem _ h)), by
  have := w.nd
  simp only [List.map_cons, List.nodup_cons, List.mem_cons, not_or] at this ⊢
  exact ⟨⟨fun z => this.1.1 z.symm, this.2.1⟩, this.1.2, this.2.2⟩⟩
/-- the first cell moved behind the second and third -/
theorem Wd.rot3 {l' l'' : Addr} {cp'' : CP} (w : Wd G H ((l, cp) :: (l', cp') :: (l'', cp'') :: cs)) : Wd G H ((l'', cp'') :: (l, cp) :: (l', cp') :: cs) := ⟨w.ex, fun c h => w.at_ c (by
  simp only [List.mem_cons] at h ⊢
  rcases h with h | h | h | h <;> simp [h]), by
  have := w.nd
  simp only [List.map_cons, List.nodup_cons, List.mem_cons, not_or] at this ⊢
  obtain ⟨⟨a, b, c⟩, ⟨d, e⟩, f, g⟩ := this
  exact ⟨⟨fun z => b z.symm, fun z => d z.symm, f⟩, ⟨a, c⟩, e, g⟩⟩
/-- the first cell is written -/
theorem Wd.write (w : Wd G H ((l, cp) :: cs)) {o : HO} (h : cp'.p G o) : Wd G (upd H l o) ((l, cp') :: cs) := by
  refine ⟨fun a u e => ?_, fun c hc => ?_, w.nd⟩
  · rw [upd_ne (fun z => by subst z; rw [w.head.1] at e; cases e)]; exact w.ex a u e
  · rcases List.mem_cons.mp hc with hc | hc
    · subst hc; exact ⟨w.head.1, o, upd_same, h⟩
    · obtain ⟨h1, o', h2, h3⟩ := w.tail.at_ c hc
      have hne : c.1 ≠ l := fun z => (List.nodup_cons.mp w.nd).1 (by rw [← z]; exact List.mem_map_of_mem (f := (·.1)) hc)
      exact ⟨h1, o', by rw [upd_ne hne]; exact h2, h3⟩
/-- a new cell is laid -/
theorem Wd.new (w : Wd G H cs) {o : HO} (n : H l = none) (h : cp.p G o) : Wd G (upd H l o) ((l, cp) :: cs) := by
  refine ⟨w.ex.mut (fresh_back w.ex n), fun c hc => ?_, ?_⟩
  · rcases List.mem_cons.mp hc with hc | hc
    · subst hc; exact ⟨fresh_back w.ex n, o, upd_same, h⟩
    · obtain ⟨h1, o', h2, h3⟩ := w.at_ c hc
      exact ⟨h1, o', by rw [upd_ne (ne_of_none h2 n)]; exact h2, h3⟩
  · show (l :: cs.map (·.1)).Nodup
    refine List.nodup_cons.mpr ⟨fun hm => ?_, w.nd⟩
    obtain ⟨c, hc, e⟩ := List.mem_map.mp hm
    obtain ⟨_, o', h2, _⟩ := w.at_ c hc
    exact ne_of_none h2 n e
/-- a list cell becomes data -/
theorem Wd.freeze {α : Type} {R : Rep α} {xs : List α} (w : Wd G H ((l, cL R xs) :: cs)) : ∃ G2, Wd G2 H cs ∧ Ex G G2 ∧ (rL R).r G2 (.ref l) xs := by
  obtain ⟨h1, o, h2, vs, rfl, h3⟩ := w.head
  refine ⟨upd G l (.lst vs), ⟨fun a u e => ?_, fun c hc => ?_, w.tail.nd⟩, Ex.new h1, l, vs, rfl, upd_same, Paired.mapP h3 fun _ _ => R.mono (Ex.new h1)⟩
  · by_cases q : a = l
    · subst q; rw [upd_same] at e; cases e; exact h2
    · rw [upd_ne q] at e; exact w.ex a u e
  · obtain ⟨k1, o', k2, k3⟩ := w.tail.at_ c hc
    have hne : c.1 ≠ l := fun z => (List.nodup_cons.mp w.nd).1 (by rw [← z]; exact List.mem_map_of_mem (f := (·.1)) hc)
    exact ⟨by rw [upd_ne hne]; exact k1, o', k2, c.2.mono (Ex.new h1) k3⟩
/-- a cell read as it stands -/
theorem Wd.rl {α : Type} {R : Rep α} {xs : List α} (w : Wd G H ((l, cL R xs) :: cs)) : (rL R).r H (.ref l) xs := by
  obtain ⟨h1, o, h2, vs, rfl, h3⟩ := w.head
  exact ⟨l, vs, rfl, h2, Paired.mapP h3 fun _ _ => R.mono w.ex⟩
end
theorem Wd.rl1 {G H : Hp} {cs : Cs} {α : Type} {R : Rep α} {xs : List α} {l : Addr} {c : Addr × CP} (w : Wd G H (c :: (l, cL R xs) :: cs)) : (rL R).r H (.ref l) xs := w.tail.rl
theorem Wd.rl2 {G H : Hp} {cs : Cs} {α : Type} {R : Rep α} {xs : List α} {l : Addr} {c c' : Addr × CP} (w : Wd G H (c :: c' :: (l, cL R xs) :: cs)) : (rL R).r H (.ref l) xs := w.tail.tail.rl

/-! ### promises -/
/-- what is handed back is data -/
def PF {ι α : Type} (A : AR ι) (R : Rep α) (f : ι → Option α) : Sp := fun vs H Q _ => ∃ G i x, Ex G H ∧ A.r G vs i ∧ f i = some x ∧ ∀ v H2 G2, Up G H G2 H2 → R.r G2 v x → Q v H2
/-- a new list is handed back -/
def PL {ι α : Type} (A : AR ι) (R : Rep α) (f : ι → Option (List α)) : Sp := fun vs H Q _ => ∃ G i x, Ex G H ∧ A.r G vs i ∧ f i = some x ∧
  ∀ p H2 G2, H p = none → Up G H G2 H2 → Wd G2 H2 [(p, cL R x)] → Q (.ref p) H2
/-- cells change -/
structure Fr (G H G2 H2 : Hp) (ls : List Addr) : Prop where
  gg : Ex G G2
  fr : ∀ a o, H a = some o → a ∉ ls → H2 a = some o
  nw : ∀ a, H a ≠ none → G a = none → G2 a = none
  st : ∀ a, H a ≠ none → H2 a ≠ none
def PM {ι κ α : Type} (A : AR ι) (ci : ι → κ → Cs) (R : Rep α) (f : ι → κ → Option (α × κ)) : Sp := fun vs H Q _ => ∃ G i k x k', A.r G vs i ∧ Wd G H (ci i k) ∧ f i k = some (x, k') ∧
  ∀ v H2 G2, Fr G H G2 H2 ((ci i k).map (·.1)) → Wd G2 H2 (ci i k') → R.r G2 v x → Q v H2
def PML {ι κ α : Type} (A : AR ι) (ci : ι → κ → Cs) (R : Rep α) (f : ι → κ → Option (List α × κ)) : Sp := fun vs H Q _ => ∃ G i k x k', A.r G vs i ∧ Wd G H (ci i k) ∧ f i k = some (x, k') ∧
  ∀ p H2 G2, H p = none → Fr G H G2 H2 ((ci i k).map (·.1)) → Wd G2 H2 ((p, cL R x) :: ci i k') → Q (.ref p) H2
theorem Wd.app {G H : Hp} {a b : Cs} (w : Wd G H (a ++ b)) : Wd G H a ∧ Wd G H b := ⟨⟨w.ex, fun c h => w.at_ c (List.mem_append_left _ h), by
  have := w.nd; rw [List.map_append] at this; exact (List.nodup_append.mp this).1⟩, ⟨w.ex, fun c h => w.at_ c (List.mem_append_right _ h), by
  have := w.nd; rw [List.map_append] at this; exact (List.nodup_append.mp this).2.1⟩⟩
theorem Wd.join {G H G2 H2 : Hp} {a a' b : Cs} (w : Wd G H (a ++ b)) (f : Fr G H G2 H2 (a.map (·.1))) (w2 : Wd G2 H2 a') (e : a'.map (·.1) = a.map (·.1)) : Wd G2 H2 (a' ++ b) := by
  have nd : (a.map (·.1) ++ b.map (·.1)).Nodup := by have := w.nd; rw [List.map_append] at this; exact this
  refine ⟨w2.ex, fun c h => ?_, by rw [List.map_append, e]; exact nd⟩
  rcases List.mem_append.mp h with h | h
  · exact w2.at_ c h
  · obtain ⟨h1, o, h2, h3⟩ := w.app.2.at_ c h
    have hn : c.1 ∉ a.map (·.1) := fun z => (List.nodup_append.mp nd).2.2 _ z _ (List.mem_map_of_mem h) rfl
    exact ⟨f.nw _ (by rw [h2]; simp) h1, o, f.fr _ _ h2 hn, c.2.mono f.gg h3⟩
/-- the same, a new cell ahead -/
theorem Wd.joinN {G H G2 H2 : Hp} {a a' b : Cs} {p : Addr} {cp : CP} (w : Wd G H (a ++ b)) (f : Fr G H G2 H2 (a.map (·.1))) (hp : H p = none) (w2 : Wd G2 H2 ((p, cp) :: a')) (e : a'.map (·.1) = a.map (·.1)) : Wd G2 H2 ((p, cp) :: (a' ++ b)) := by
  have w3 := w.join f w2.tail e
  refine ⟨w3.ex, fun c h => ?_, ?_⟩
  · rcases List.mem_cons.mp h with h | h
    · subst h; exact w2.head
    · exact w3.at_ c h
  · show (p :: (a' ++ b).map (·.1)).Nodup
    refine List.nodup_cons.mpr ⟨fun hm => ?_, w3.nd⟩
    rw [List.map_append, e, ← List.map_append] at hm
    obtain ⟨c, hc, ec⟩ := List.mem_map.mp hm
    obtain ⟨_, o', h2, _⟩ := w.at_ c hc
    exact ne_of_none h2 hp ec
theorem Fr.refl {G H : Hp} {ls : List Addr} : Fr G H G H ls := ⟨Ex.refl _, fun _ _ h _ => h, fun _ _ h => h, fun _ h => h⟩
theorem some_ne {H H2 : Hp} (e : Ex H H2) {a : Addr} (h : H a ≠ none) : H2 a ≠ none := by
  cases q : H a with
  | none => exact absurd q h
  | some o => rw [e a o q]; simp
theorem Up.fr {G H G2 H2 : Hp} {ls : List Addr} (u : Up G H G2 H2) : Fr G H G2 H2 ls := ⟨u.gg, fun a o h _ => u.hh a o h, u.nw, fun a h => some_ne u.hh h⟩
theorem Fr.trans {G H G1 H1 G2 H2 : Hp} {ls : List Addr} (a : Fr G H G1 H1 ls) (b : Fr G1 H1 G2 H2 ls) : Fr G H G2 H2 ls :=
  ⟨a.gg.trans b.gg, fun x o h1 h2 => b.fr x o (a.fr x o h1 h2) h2, fun x h1 h2 => b.nw x (a.st x h1) (a.nw x h1 h2), fun x h => b.st x (a.st x h)⟩
/-- a frame of more cells, those that were not there ahead -/
theorem Fr.less {G H G2 H2 : Hp} {ls ms : List Addr} (a : Fr G H G2 H2 ms) (h : ∀ x ∈ ms, x ∈ ls ∨ H x = none) : Fr G H G2 H2 ls :=
  ⟨a.gg, fun x o h1 h2 => a.fr x o h1 fun z => (h x z).elim h2 fun q => absurd h1 (by rw [q]; simp), a.nw, a.st⟩
theorem Fr.write {G H : Hp} {l : Addr} {o : HO} : Fr G H G (upd H l o) [l] := ⟨Ex.refl _, fun a u h1 h2 => by rw [upd_ne (fun z => h2 (by rw [z]; exact List.mem_cons_self ..))]; exact h1, fun _ _ h => h, fun a h => by
  by_cases q : a = l
  · subst q; rw [upd_same]; simp
  · rw [upd_ne q]; exact h⟩
end Sim

namespace Sim
open PySem L2 Evl
section
variable {K : PySem.W.Frag} {σ : L2.St} {G H G' W W' : Hp} {ta tb te tc : TE} {t u : TT} {α β γ ι κ : Type} {R : Rep α} {S : Rep β} {T : Rep γ} {A : AR ι}

/-! ### mirrors of operations that may lack an answer -/
def mulM (a b : Int) : Option Int := if (-(2 ^ 64) < a ∧ a < 2 ^ 64) ∨ (-(2 ^ 64) < b ∧ b < 2 ^ 64) then some (a * b) else none
def modM (a b : Int) : Option Int := if 0 < b then some (a % b) else none
def fdivM (a b : Int) : Option Int := if 0 < b ∧ b < 1073741824 then some (a / b) else none
def andO (a : Option Bool) (b : Option Bool) : Option Bool := a >>= fun x => bif x then b else some false
def orO (a : Option Bool) (b : Option Bool) : Option Bool := a >>= fun x => bif x then some true else b
def iteO (c : Option Bool) (a b : Option α) : Option α := c >>= fun x => bif x then a else b

theorem rr_add : RR (rI0 fun i j => .int (i + j)) rI rI rI (fun i j => some (i + j)) := rr_I0 fun _ _ _ => rfl
theorem rr_sub : RR (rI0 fun i j => .int (i - j)) rI rI rI (fun i j => some (i - j)) := rr_I0 fun _ _ _ => rfl
theorem rr_mul : RR (L2.rI CMul fun i j => .int (i * j)) rI rI rI mulM := rr_I fun i j z h => by
  unfold mulM at h
  split at h
  · rename_i hc; cases h; exact ⟨hc, fun _ => rfl⟩
  · cases h
theorem rr_mod : RR (L2.rI (fun _ j => 0 < j) fun i j => .int (i % j)) rI rI rI modM := rr_I fun i j z h => by
  unfold modM at h
  split at h
  · rename_i hc; cases h; exact ⟨hc, fun _ => rfl⟩
  · cases h
theorem rr_fdiv : RR (L2.rI CDiv fun i j => .int (i / j)) rI rI rI fdivM := rr_I fun i j z h => by
  unfold fdivM at h
  split at h
  · rename_i hc; cases h; exact ⟨hc, fun _ => rfl⟩
  · cases h
theorem rr_and : RR (rI0 fun i j => .int (Builtin.bitAnd i j)) rI rI rI (fun i j => some (Builtin.bitAnd i j)) := rr_I0 fun _ _ _ => rfl
theorem rr_or : RR (rI0 fun i j => .int (Builtin.bitOr i j)) rI rI rI (fun i j => some (Builtin.bitOr i j)) := rr_I0 fun _ _ _ => rfl
theorem rr_lt : RR (rI0 fun i j => .bl (decide (i < j))) rI rI rB (fun i j => some (decide (i < j))) := rr_I0 fun _ _ _ => rfl
theorem rr_le : RR (rI0 fun i j => .bl (decide (i ≤ j))) rI rI rB (fun i j => some (decide (i ≤ j))) := rr_I0 fun _ _ _ => rfl
theorem rr_gt : RR (rI0 fun i j => .bl (decide (j < i))) rI rI rB (fun i j => some (decide (j < i))) := rr_I0 fun _ _ _ => rfl
theorem rr_ge : RR (rI0 fun i j => .bl (decide (j ≤ i))) rI rI rB (fun i j => some (decide (j ≤ i))) := rr_I0 fun _ _ _ => rfl
theorem rr_eqI : RR rEq rI rI rB (fun i j => some (i == j)) := fun v w x y z H G hv hw hz e Q q => by
  cases hv; cases hw; cases hz
  exact ⟨rfl, q _ H G (Up.refl e) (congrArg V.bl dec_int)⟩
theorem rr_neI : RR rNe rI rI rB (fun i j => some (!(i == j))) := fun v w x y z H G hv hw hz e Q q => by
  cases hv; cases hw; cases hz
  exact ⟨rfl, q _ H G (Up.refl e) (congrArg (fun b => V.bl (!b)) dec_int)⟩
theorem rr_eqB : RR rEq rB rB rB (fun i j => some (i == j)) := fun v w x y z H G hv hw hz e Q q => by
  cases hv; cases hw; cases hz
  exact ⟨rfl, q _ H G (Up.refl e) (congrArg V.bl dec_bl)⟩
theorem rr_neB : RR rNe rB rB rB (fun i j => some (!(i == j))) := fun v w x y z H G hv hw hz e Q q => by
  cases hv; cases hw; cases hz
  exact ⟨rfl, q _ H G (Up.refl e) (congrArg (fun b => V.bl (!b)) dec_bl)⟩
theorem rr_eqS : RR rEq rS rS rB (fun i j => some (decide (i = j))) := fun v w x y z H G hv hw hz e Q q => by
  cases hv; cases hw; cases hz
  refine ⟨rfl, q _ H G (Up.refl e) (congrArg V.bl ?_)⟩
  by_cases h : x = y
  · subst h; simp
  · have : ¬ V.str x = V.str y := fun z => h (V.str.inj z)
    simp [h, this]
theorem rr_neS : RR rNe rS rS rB (fun i j => some (!decide (i = j))) := fun v w x y z H G hv hw hz e Q q => by
  cases hv; cases hw; cases hz
  refine ⟨rfl, q _ H G (Up.refl e) (congrArg (fun b => V.bl (!b)) ?_)⟩
  by_cases h : x = y
  · subst h; simp
  · have : ¬ V.str x = V.str y := fun z => h (V.str.inj z)
    simp [h, this]
theorem rr_ixL : RR (rIxL K) (rL R) rI R (fun xs i => atI xs i) := fun v w xs i z H G hv hw hz e Q q => by
  obtain ⟨a, vs, rfl, h2, h3⟩ := hv
  cases hw
  have hz' : (ixN xs.length i).bind (fun j => xs[j]?) = some z := hz
  cases hj : ixN xs.length i with
  | none => rw [hj] at hz'; cases hz'
  | some j =>
    rw [hj] at hz'
    obtain ⟨y, h4, h5⟩ := pr_get h3 (show xs[j]? = some z from hz')
    refine ⟨a, vs, i, y, rfl, rfl, Or.inl (Or.inl (e a _ h2)), ?_, q y H G (Up.refl e) h5⟩
    show (ixN vs.length i).bind (fun j => vs[j]?) = some y
    rw [h3.length, hj]; exact h4
theorem rr_ixT : RR (rIxT K) (rT R) rI R (fun xs i => atI xs i) := fun v w xs i z H G hv hw hz e Q q => by
  obtain ⟨a, vs, rfl, h2, h3⟩ := hv
  cases hw
  have hz' : (ixN xs.length i).bind (fun j => xs[j]?) = some z := hz
  cases hj : ixN xs.length i with
  | none => rw [hj] at hz'; cases hz'
  | some j =>
    rw [hj] at hz'
    obtain ⟨y, h4, h5⟩ := pr_get h3 (show xs[j]? = some z from hz')
    refine ⟨a, vs, i, y, rfl, rfl, Or.inl (Or.inl (e a _ h2)), ?_, q y H G (Up.refl e) h5⟩
    show (ixN vs.length i).bind (fun j => vs[j]?) = some y
    rw [h3.length, hj]; exact h4
/-- p[0], p[1] of a pair -/
theorem e_fst {m : Option (α × β)} (h : E ta σ G W (rP R S) m) : E (tOp (rIxT K) ta (tC (.int 0))) σ G W R (m >>= fun p => some p.1) := fun z hz H e e' Q q => by
  obtain ⟨x, hx, hz⟩ := bindS hz
  cases hz
  refine h x hx H e e' _ fun v H1 G1 u1 r1 => ?_
  obtain ⟨a, y, w, rfl, h2, h3, h4⟩ := r1
  exact ⟨a, [y, w], 0, y, rfl, rfl, Or.inl (Or.inl (u1.gh a _ h2)), rfl, q y H1 G1 u1 h3⟩
theorem e_snd {m : Option (α × β)} (h : E ta σ G W (rP R S) m) : E (tOp (rIxT K) ta (tC (.int 1))) σ G W S (m >>= fun p => some p.2) := fun z hz H e e' Q q => by
  obtain ⟨x, hx, hz⟩ := bindS hz
  cases hz
  refine h x hx H e e' _ fun v H1 G1 u1 r1 => ?_
  obtain ⟨a, y, w, rfl, h2, h3, h4⟩ := r1
  exact ⟨a, [y, w], 1, w, rfl, rfl, Or.inl (Or.inl (u1.gh a _ h2)), rfl, q w H1 G1 u1 h4⟩
/-- never None -/
def Rep.NN (R : Rep α) : Prop := ∀ {H : Hp} {v : V} {x : α}, R.r H v x → v ≠ .non
theorem nnI : rI.NN := fun h => by rw [show _ = V.int _ from h]; simp
theorem nnB : rB.NN := fun h => by rw [show _ = V.bl _ from h]; simp
theorem nnS : rS.NN := fun h => by rw [show _ = V.str _ from h]; simp
theorem nnL : (rL R).NN := fun ⟨a, _, h, _⟩ => by rw [h]; simp
theorem nnT : (rT R).NN := fun ⟨a, _, h, _⟩ => by rw [h]; simp
theorem nnP : (rP R S).NN := fun ⟨a, _, _, h, _⟩ => by rw [h]; simp
theorem rr_isN (nn : R.NN) : RR (fun x y H Q => y = .non ∧ Q (.bl (decide (x = .non))) H) (rO R) rU rB (fun o _ => some o.isNone) := fun v w o y z H G hv hw hz e Q q => by
  cases hz
  refine ⟨hw, q _ H G (Up.refl e) ?_⟩
  cases o with
  | none => have : v = .non := hv; subst this; rfl
  | some x => exact congrArg V.bl (decide_eq_false (nn hv))
theorem rr_notN (nn : R.NN) : RR (fun x y H Q => y = .non ∧ Q (.bl (!decide (x = .non))) H) (rO R) rU rB (fun o _ => some o.isSome) := fun v w o y z H G hv hw hz e Q q => by
  cases hz
  refine ⟨hw, q _ H G (Up.refl e) ?_⟩
  cases o with
  | none => have : v = .non := hv; subst this; rfl
  | some x => exact congrArg (fun b => V.bl (!b)) (decide_eq_false (nn hv))
/-- flat values: in -/
structure FlR (R : Rep α) (eq : α → α → Bool) : Prop where
  fl : ∀ {H : Hp} {v : V} {x : α}, R.r H v x → flatV v = true
  eq : ∀ {H H' : Hp} {v w : V} {x y : α}, R.r H v x → R.r H' w y → eqV v w = eq x y
theorem flI : FlR rI (fun a b => a == b) := ⟨fun h => by rw [show _ = V.int _ from h]; rfl, fun h h' => by rw [show _ = V.int _ from h, show _ = V.int _ from h']; rfl⟩
theorem flS : FlR rS (fun a b => a == b) := ⟨fun h => by rw [show _ = V.str _ from h]; rfl, fun h h' => by rw [show _ = V.str _ from h, show _ = V.str _ from h']; rfl⟩
theorem pr_inV {eq : α → α → Bool} (f : FlR R eq) {H H' : Hp} {v : V} {x : α} (hv : R.r H' v x) : ∀ {vs : List V} {xs : List α}, Paired (R.r H) vs xs → inV v vs = xs.any (fun y => eq y x) ∧ vs.all flatV = true
  | _, _, .nil => ⟨rfl, rfl⟩
  | _, _, .cons r t => by
    obtain ⟨h1, h2⟩ := pr_inV f hv t
    refine ⟨?_, ?_⟩
    · show (eqV _ v || _) = (eq _ x || _)
      rw [f.eq r hv]; exact congrArg _ h1
    · show (flatV _ && _) = true
      rw [f.fl r]; exact h2
theorem rr_inL {eq : α → α → Bool} (f : FlR R eq) : RR (rIn K false) R (rL R) rB (fun x xs => some (xs.any fun y => eq y x)) := fun v w x xs z H G hv hw hz e Q q => by
  cases hz
  obtain ⟨a, vs, rfl, h2, h3⟩ := hw
  obtain ⟨h4, h5⟩ := pr_inV f hv h3
  refine ⟨a, vs, rfl, Or.inl (Or.inl (Or.inl (e a _ h2))), f.fl hv, h5, q _ H G (Up.refl e) (congrArg V.bl ?_)⟩
  exact h4
theorem rr_ninL {eq : α → α → Bool} (f : FlR R eq) : RR (rIn K true) R (rL R) rB (fun x xs => some (!xs.any fun y => eq y x)) := fun v w x xs z H G hv hw hz e Q q => by
  cases hz
  obtain ⟨a, vs, rfl, h2, h3⟩ := hw
  obtain ⟨h4, h5⟩ := pr_inV f hv h3
  refine ⟨a, vs, rfl, Or.inl (Or.inl (Or.inl (e a _ h2))), f.fl hv, h5, q _ H G (Up.refl e) (congrArg V.bl ?_)⟩
  exact congrArg (fun b => !b) h4

/-! ### and, or, not, if -/
theorem e_andV {a b : Option Bool} (h1 : E ta σ G W rB a) (h2 : E tb σ G W rB b) : E (tAndV ta tb) σ G W rB (andO a b) := fun z hz H e e' Q q => by
  obtain ⟨x, hx, hz⟩ := bindS hz
  refine h1 x hx H e e' _ fun v H1 G1 u1 r1 => ⟨x, r1, ?_⟩
  cases x with
  | true => exact (h2.mono u1.gg (e'.trans u1.hh)) z hz H1 u1.gh (Ex.refl _) Q fun v H2 G2 u2 r2 => q v H2 G2 (u1.trans u2) r2
  | false => cases hz; exact q _ H1 G1 u1 rfl
theorem e_orV {a b : Option Bool} (h1 : E ta σ G W rB a) (h2 : E tb σ G W rB b) : E (tOrV ta tb) σ G W rB (orO a b) := fun z hz H e e' Q q => by
  obtain ⟨x, hx, hz⟩ := bindS hz
  refine h1 x hx H e e' _ fun v H1 G1 u1 r1 => ⟨x, r1, ?_⟩
  cases x with
  | false => exact (h2.mono u1.gg (e'.trans u1.hh)) z hz H1 u1.gh (Ex.refl _) Q fun v H2 G2 u2 r2 => q v H2 G2 (u1.trans u2) r2
  | true => cases hz; exact q _ H1 G1 u1 rfl
theorem e_notV {a : Option Bool} (h1 : E ta σ G W rB a) : E (tNotV ta) σ G W rB (a >>= fun x => some (!x)) := fun z hz H e e' Q q => by
  obtain ⟨x, hx, hz⟩ := bindS hz
  cases hz
  exact h1 x hx H e e' _ fun v H1 G1 u1 r1 => ⟨x, r1, q _ H1 G1 u1 rfl⟩
theorem e_if {c : Option Bool} {ma mb : Option α} (hc : ET t σ W c) (h1 : E ta σ G W R ma) (h2 : E tb σ G W R mb) : E (tIf t ta tb) σ G W R (iteO c ma mb) := fun z hz H e e' Q q => by
  obtain ⟨x, hx, hz⟩ := bindS hz
  refine hc x hx H e' _ fun H1 e1 => ?_
  cases x with
  | true => exact h1 z hz H1 (e.trans e1) (e'.trans e1) Q fun v H2 G2 u2 r2 => q v H2 G2 ((Up.same e e1).trans u2) r2
  | false => exact h2 z hz H1 (e.trans e1) (e'.trans e1) Q fun v H2 G2 u2 r2 => q v H2 G2 ((Up.same e e1).trans u2) r2
theorem et_T {m : Option Bool} (h : E te σ W W rB m) : ET (tTest te) σ W m := fun b hb H e Q q => h b hb H e e _ fun v H2 G2 u r => ⟨b, r, q H2 u.hh⟩
theorem et_B {m : Option Bool} (h : E te σ W W rB m) : ET (tB te) σ W m := fun b hb H e Q q => h b hb H e e _ fun v H2 G2 u r => ⟨b, r, q H2 u.hh⟩
theorem et_and {a b : Option Bool} (h1 : ET t σ G a) (h2 : ET u σ G b) : ET (tAnd t u) σ G (andO a b) := fun z hz H e Q q => by
  obtain ⟨x, hx, hz⟩ := bindS hz
  refine h1 x hx H e _ fun H1 e1 => ?_
  cases x with
  | true => exact h2 z hz H1 (e.trans e1) Q fun H2 e2 => q H2 (e1.trans e2)
  | false => cases hz; exact q H1 e1
theorem et_or {a b : Option Bool} (h1 : ET t σ G a) (h2 : ET u σ G b) : ET (tOr t u) σ G (orO a b) := fun z hz H e Q q => by
  obtain ⟨x, hx, hz⟩ := bindS hz
  refine h1 x hx H e _ fun H1 e1 => ?_
  cases x with
  | false => exact h2 z hz H1 (e.trans e1) Q fun H2 e2 => q H2 (e1.trans e2)
  | true => cases hz; exact q H1 e1
theorem et_not {a : Option Bool} (h1 : ET t σ G a) : ET (tNot t) σ G (a >>= fun x => some (!x)) := fun z hz H e Q q => by
  obtain ⟨x, hx, hz⟩ := bindS hz
  cases hz
  exact h1 x hx H e _ fun H1 e1 => q H1 e1

/-! ### arguments, calls -/
theorem ea_nil : EA tNil σ G W aN (some ()) := fun x hx H e e' Q q => q [] H G (Up.refl e) rfl
theorem ea_cons {tr : TA} {ma : Option α} {mr : Option ι} (h : E ta σ G W R ma) (hr : EA tr σ G W A mr) : EA (tCons ta tr) σ G W (aC R A) (ma >>= fun x => mr >>= fun y => some (x, y)) := fun z hz H e e' Q q => by
  obtain ⟨x, hx, hz⟩ := bindS hz
  obtain ⟨y, hy, hz⟩ := bindS hz
  cases hz
  refine h x hx H e e' _ fun v H1 G1 u1 r1 => ?_
  refine (hr.mono u1.gg (e'.trans u1.hh)) y hy H1 u1.gh (Ex.refl _) _ fun w H2 G2 u2 r2 => ?_
  exact q (v :: w) H2 G2 (u1.trans u2) ⟨v, w, rfl, R.mono u2.gg r1, r2⟩
def RC (r : List V → Hp → VK → Prop) (A : AR ι) (T : Rep γ) (f : ι → Option γ) : Prop :=
  ∀ vs i z H G, A.r G vs i → f i = some z → Ex G H → ∀ Q : VK, (∀ u H2 G2, Up G H G2 H2 → T.r G2 u z → Q u H2) → r vs H Q
def RCL (r : List V → Hp → VK → Prop) (A : AR ι) (T : Rep γ) (f : ι → Option (List γ)) : Prop :=
  ∀ vs i z H G, A.r G vs i → f i = some z → Ex G H → ∀ Q : VK, (∀ p H2 G2, H p = none → Up G H G2 H2 → Wd G2 H2 [(p, cL T z)] → Q (.ref p) H2) → r vs H Q
/-- an expression that makes a new list -/
def EL (te : TE) (σ : L2.St) (G W : Hp) (R : Rep α) (m : Option (List α)) : Prop :=
  ∀ xs, m = some xs → ∀ H, Ex G H → Ex W H → ∀ Q : VK, (∀ p H2 G2, H p = none → Up G H G2 H2 → Wd G2 H2 [(p, cL R xs)] → Q (.ref p) H2) → te σ H Q
theorem Up.frz {G H G1 H1 G2 : Hp} {p : Addr} (hp : H p = none) (u : Up G H G1 H1) (e : Ex G1 G2) (e2 : Ex G2 H1) (n : ∀ a, a ≠ p → G1 a = none → G2 a = none) : Up G H G2 H1 :=
  ⟨u.gg.trans e, e2, u.hh, fun a h1 h2 => n a (fun z => by subst z; exact h1 hp) (u.nw a h1 h2)⟩
theorem frz1 {G H G1 H1 : Hp} {p : Addr} {xs : List α} (hp : H p = none) (u : Up G H G1 H1) (w : Wd G1 H1 [(p, cL R xs)]) : ∃ G2, Up G H G2 H1 ∧ (rL R).r G2 (.ref p) xs := by
  obtain ⟨h1, o, h2, vs, rfl, h3⟩ := w.head
  refine ⟨upd G1 p (.lst vs), u.frz hp (Ex.new h1) (fun a u' e => ?_) (fun a ne h => by rw [upd_ne ne]; exact h), p, vs, rfl, upd_same, Paired.mapP h3 fun _ _ => R.mono (Ex.new h1)⟩
  by_cases q : a = p
  · subst q; rw [upd_same] at e; cases e; exact h2
  · rw [upd_ne q] at e; exact w.ex a u' e
theorem EL.e {m : Option (List α)} (h : EL te σ G W R m) : E te σ G W (rL R) m := fun x hx H e e' Q q => h x hx H e e' Q fun p H2 G2 hp u w => by
  obtain ⟨G3, u3, r3⟩ := frz1 hp u w
  exact q _ H2 G3 u3 r3
theorem Wd.lift {Gw G2 : Hp} {H : Hp} {cs : Cs} (w : Wd G2 H cs) (e : Ex G2 Gw) (e2 : Ex Gw H) (n : ∀ c ∈ cs, Gw c.1 = none) : Wd Gw H cs := ⟨e2, fun c h => by
  obtain ⟨h1, o, h2, h3⟩ := w.at_ c h
  exact ⟨n c h, o, h2, c.2.mono e h3⟩, w.nd⟩
theorem Up.lift' {G Gw H G2 H2 : Hp} (u : Up G H G2 H2) (e1 : Ex G Gw) (e2 : Ex Gw H) : ∃ G3, Up Gw H G3 H2 ∧ Ex G2 G3 ∧ ∀ a, H a = none → G2 a = none → G3 a = none := by
  refine ⟨fun a => match H a with | none => G2 a | some _ => Gw a, ⟨fun a o h => ?_, fun a o h => ?_, u.hh, fun a h1 h2 => ?_⟩, fun a o h => ?_, fun a h1 h2 => ?_⟩
  · show (match H a with | none => G2 a | some _ => Gw a) = some o
    rw [e2 a o h]; exact h
  · have h' : (match H a with | none => G2 a | some _ => Gw a) = some o := h
    cases q : H a with
    | none => rw [q] at h'; exact u.gh a o h'
    | some o' =>
      rw [q] at h'
      exact u.hh a o (e2 a o h')
  · show (match H a with | none => G2 a | some _ => Gw a) = none
    cases q : H a with
    | none => exact absurd q h1
    | some o' => exact h2
  · show (match H a with | none => G2 a | some _ => Gw a) = some o
    cases q : H a with
    | none => exact h
    | some o' =>
      show Gw a = some o
      cases r : G a with
      | none => rw [u.nw a (by rw [q]; simp) r] at h; cases h
      | some o2 =>
        have := u.gg a o2 r
        rw [h] at this
        cases this
        exact e1 a _ r
  · show (match H a with | none => G2 a | some _ => Gw a) = none
    rw [h1]; exact h2
theorem EL.mono {m : Option (List α)} (e : Ex G G') (e' : Ex W W') (h : EL te σ G W R m) : EL te σ G' W' R m := fun x hx H e1 e2 Q q => h x hx H (e.trans e1) (e'.trans e2) Q fun p H2 G2 hp u w => by
  obtain ⟨G3, u3, e3, n3⟩ := u.lift' e e1
  exact q p H2 G3 hp u3 (w.lift e3 u3.gh fun c hc => by
    cases List.mem_singleton.mp hc
    exact n3 p hp w.head.1)
theorem e_cb {r : List V → Hp → VK → Prop} {f : ι → Option γ} {ta : TA} {m : Option ι} (hr : RC r A T f) (ha : EA ta σ G W A m) : E (tCB r ta) σ G W T (m >>= f) := fun z hz H e e' Q q => by
  obtain ⟨i, hi, hz⟩ := bindS hz
  refine ha i hi H e e' _ fun vs H1 G1 u1 r1 => ?_
  exact hr vs i z H1 G1 r1 hz u1.gh Q fun u H2 G2 u2 r2 => q u H2 G2 (u1.trans u2) r2
theorem el_cb {r : List V → Hp → VK → Prop} {f : ι → Option (List γ)} {ta : TA} {m : Option ι} (hr : RCL r A T f) (ha : EA ta σ G W A m) : EL (tCB r ta) σ G W T (m >>= f) := fun z hz H e e' Q q => by
  obtain ⟨i, hi, hz⟩ := bindS hz
  refine ha i hi H e e' _ fun vs H1 G1 u1 r1 => ?_
  exact hr vs i z H1 G1 r1 hz u1.gh Q fun p H2 G2 hp u2 w => q p H2 G2 (fresh_back u1.hh hp) (u1.trans u2) w
theorem e_call {f : ι → Option γ} {ta : TA} {m : Option ι} {X : XK} (ha : EA ta σ G W A m) : E (tCall (PF A T f) [] X ta) σ G W T (m >>= f) := fun z hz H e e' Q q => by
  obtain ⟨i, hi, hz⟩ := bindS hz
  refine ha i hi H e e' _ fun vs H1 G1 u1 r1 => ?_
  rw [List.append_nil]
  exact ⟨G1, i, z, u1.gh, r1, hz, fun v H2 G2 u2 r2 => q v H2 G2 (u1.trans u2) r2⟩
theorem el_call {f : ι → Option (List γ)} {ta : TA} {m : Option ι} {X : XK} (ha : EA ta σ G W A m) : EL (tCall (PL A T f) [] X ta) σ G W T (m >>= f) := fun z hz H e e' Q q => by
  obtain ⟨i, hi, hz⟩ := bindS hz
  refine ha i hi H e e' _ fun vs H1 G1 u1 r1 => ?_
  rw [List.append_nil]
  exact ⟨G1, i, z, u1.gh, r1, hz, fun p H2 G2 hp u2 w => q p H2 G2 (fresh_back u1.hh hp) (u1.trans u2) w⟩

/-! ### built-ins -/
def sz (n : Nat) : Bool := decide (n < 100000)
theorem sz_le {n : Nat} (h : sz n = true) : n ≤ sizeLine := sz_of (Nat.le_of_lt (of_decide_eq_true h))
theorem sz_l {n : Nat} (h : sz n = true) : n < sizeLine := sz_lt (of_decide_eq_true h)
abbrev rLn (K : PySem.W.Frag) : List V → Hp → VK → Prop := fun xs H Q => ∃ p ys, xs = [.ref p] ∧ (SqL K H p ys ∨ SqT K H p ys) ∧ Q (.int ys.length) H
theorem rc_lenL : RC (rLn K) (aC (rL R) aN) rI (fun i => some (i.1.length : Int)) := fun vs i z H G hv hz e Q q => by
  cases hz
  obtain ⟨v, ws, rfl, ⟨a, us, rfl, h2, h3⟩, rfl⟩ := hv
  refine ⟨a, us, rfl, Or.inl (Or.inl (Or.inl (e a _ h2))), q _ H G (Up.refl e) ?_⟩
  show V.int _ = V.int _
  rw [h3.length]
theorem rc_lenT : RC (rLn K) (aC (rT R) aN) rI (fun i => some (i.1.length : Int)) := fun vs i z H G hv hz e Q q => by
  cases hz
  obtain ⟨v, ws, rfl, ⟨a, us, rfl, h2, h3⟩, rfl⟩ := hv
  refine ⟨a, us, rfl, Or.inr (Or.inl (Or.inl (e a _ h2))), q _ H G (Up.refl e) ?_⟩
  show V.int _ = V.int _
  rw [h3.length]
abbrev rLs (K : PySem.W.Frag) : List V → Hp → VK → Prop := fun xs H Q => ∃ p ys, xs = [.ref p] ∧ (SqL K H p ys ∨ SqT K H p ys) ∧ ∀ l, H l = none → Q (.ref l) (upd H l (.lst ys))
theorem wd_new {vs : List V} {xs : List α} {p : Addr} (e : Ex G H) (n : H p = none) (h : Paired (R.r G) vs xs) : Wd G (upd H p (.lst vs)) [(p, cL R xs)] := (Wd.nil e).new n ⟨vs, rfl, h⟩
theorem up_new {p : Addr} {o : HO} (e : Ex G H) (n : H p = none) : Up G H G (upd H p o) := Up.same e (Ex.new n)
theorem rc_listL : RCL (rLs K) (aC (rL R) aN) R (fun i => some i.1) := fun vs i z H G hv hz e Q q => by
  cases hz
  obtain ⟨v, ws, rfl, ⟨a, us, rfl, h2, h3⟩, rfl⟩ := hv
  exact ⟨a, us, rfl, Or.inl (Or.inl (Or.inl (e a _ h2))), fun l hl => q l _ G hl (up_new e hl) (wd_new e hl h3)⟩
theorem rc_listT : RCL (rLs K) (aC (rT R) aN) R (fun i => some i.1) := fun vs i z H G hv hz e Q q => by
  cases hz
  obtain ⟨v, ws, rfl, ⟨a, us, rfl, h2, h3⟩, rfl⟩ := hv
  exact ⟨a, us, rfl, Or.inr (Or.inl (Or.inl (e a _ h2))), fun l hl => q l _ G hl (up_new e hl) (wd_new e hl h3)⟩
abbrev rTp (K : PySem.W.Frag) : List V → Hp → VK → Prop := fun xs H Q => ∃ p ys, xs = [.ref p] ∧ ((SqL K H p ys ∧ ∀ l, H l = none → Q (.ref l) (upd H l (.tup ys))) ∨ (SqT K H p ys ∧ Q (.ref p) H))
theorem rc_tupleL : RC (rTp K) (aC (rL R) aN) (rT R) (fun i => some i.1) := fun vs i z H G hv hz e Q q => by
  cases hz
  obtain ⟨v, ws, rfl, ⟨a, us, rfl, h2, h3⟩, rfl⟩ := hv
  refine ⟨a, us, rfl, Or.inl ⟨Or.inl (Or.inl (e a _ h2)), fun l hl => q _ _ _ (Up.lay e hl) ⟨l, us, rfl, upd_same, Paired.mapP h3 fun _ _ => R.mono (Ex.new (fresh_back e hl))⟩⟩⟩
abbrev rAbs : List V → Hp → VK → Prop := fun xs H Q => ∃ i, xs = [.int i] ∧ Q (.int (if i < 0 then -i else i)) H
theorem rc_abs : RC rAbs (aC rI aN) rI (fun i => some (if i.1 < 0 then -i.1 else i.1)) := fun vs i z H G hv hz e Q q => by
  cases hz
  obtain ⟨v, ws, rfl, rfl, rfl⟩ := hv
  exact ⟨_, rfl, q _ H G (Up.refl e) rfl⟩
abbrev rMx : List V → Hp → VK → Prop := fun xs H Q => ∃ i j, xs = [.int i, .int j] ∧ Q (.int (if j > i then j else i)) H
abbrev rMn : List V → Hp → VK → Prop := fun xs H Q => ∃ i j, xs = [.int i, .int j] ∧ Q (.int (if j < i then j else i)) H
theorem rc_max2 : RC rMx (aC rI (aC rI aN)) rI (fun i => some (if i.2.1 > i.1 then i.2.1 else i.1)) := fun vs i z H G hv hz e Q q => by
  cases hz
  obtain ⟨v, ws, rfl, rfl, v2, ws2, rfl, rfl, rfl⟩ := hv
  exact ⟨_, _, rfl, q _ H G (Up.refl e) rfl⟩
theorem rc_min2 : RC rMn (aC rI (aC rI aN)) rI (fun i => some (if i.2.1 < i.1 then i.2.1 else i.1)) := fun vs i z H G hv hz e Q q => by
  cases hz
  obtain ⟨v, ws, rfl, rfl, v2, ws2, rfl, rfl, rfl⟩ := hv
  exact ⟨_, _, rfl, q _ H G (Up.refl e) rfl⟩
abbrev rInt : List V → Hp → VK → Prop := fun xs H Q => (∃ i, xs = [.int i] ∧ Q (.int i) H) ∨ ∃ k, xs = [.bl k] ∧ Q (.int (if k then 1 else 0)) H
theorem rc_intI : RC rInt (aC rI aN) rI (fun i => some i.1) := fun vs i z H G hv hz e Q q => by
  cases hz
  obtain ⟨v, ws, rfl, rfl, rfl⟩ := hv
  exact Or.inl ⟨_, rfl, q _ H G (Up.refl e) rfl⟩
theorem rc_intB : RC rInt (aC rB aN) rI (fun i => some (if i.1 then 1 else 0)) := fun vs i z H G hv hz e Q q => by
  cases hz
  obtain ⟨v, ws, rfl, rfl, rfl⟩ := hv
  exact Or.inr ⟨_, rfl, q _ H G (Up.refl e) rfl⟩
theorem pr_ints {H : Hp} : ∀ {vs : List V} {xs : List Int}, Paired (rI.r H) vs xs → vs = xs.map V.int
  | _, _, .nil => rfl
  | _, _, .cons r t => by rw [show _ = V.int _ from r, pr_ints t]; rfl
theorem ints_pr {H : Hp} : ∀ (xs : List Int), Paired (rI.r H) (xs.map V.int) xs
  | [] => .nil
  | x :: xs => .cons rfl (ints_pr xs)
/-- the sorted list, the least, the greatest: plain mirrors -/
def insI (x : Int) : List Int → List Int
  | [] => [x]
  | y :: ys => if x ≤ y then x :: y :: ys else y :: insI x ys
def srtI : List Int → List Int
  | [] => []
  | x :: xs => insI x (srtI xs)
theorem insI_perm (x : Int) : ∀ ys, (insI x ys).Perm (x :: ys)
  | [] => .refl _
  | y :: ys => by
    unfold insI
    split
    · exact .refl _
    · exact (List.Perm.cons y (insI_perm x ys)).trans (.swap x y ys)
theorem srtI_perm : ∀ xs, (srtI xs).Perm xs
  | [] => .refl _
  | x :: xs => (insI_perm x _).trans (.cons x (srtI_perm xs))
theorem insI_sorted (x : Int) : ∀ {ys : List Int}, ys.Pairwise (· ≤ ·) → (insI x ys).Pairwise (· ≤ ·)
  | [], _ => by simp [insI]
  | y :: ys, h => by
    unfold insI
    split
    · rename_i hxy
      refine List.pairwise_cons.mpr ⟨fun z hz => ?_, h⟩
      rcases List.mem_cons.mp hz with hz | hz
      · subst hz; exact hxy
      · exact Int.le_trans hxy ((List.pairwise_cons.mp h).1 z hz)
    · rename_i hxy
      refine List.pairwise_cons.mpr ⟨fun z hz => ?_, insI_sorted x (List.pairwise_cons.mp h).2⟩
      rcases List.mem_cons.mp ((insI_perm x ys).mem_iff.mp hz) with hz | hz
      · subst hz; omega
      · exact (List.pairwise_cons.mp h).1 z hz
theorem srtI_sorted : ∀ xs, (srtI xs).Pairwise (· ≤ ·)
  | [] => List.Pairwise.nil
  | x :: xs => insI_sorted x (srtI_sorted xs)
theorem srt_uniq : ∀ {xs ys : List Int}, xs.Perm ys → xs.Pairwise (· ≤ ·) → ys.Pairwise (· ≤ ·) → xs = ys
  | [], ys, p, _, _ => by simpa using p.symm.eq_nil
  | x :: xs, [], p, _, _ => by simpa using p.eq_nil
  | x :: xs, y :: ys, p, hx, hy => by
    have h1 : x ≤ y := by
      rcases List.mem_cons.mp (p.symm.subset (List.mem_cons_self ..) : y ∈ x :: xs) with h | h
      · omega
      · exact (List.pairwise_cons.mp hx).1 y h
    have h2 : y ≤ x := by
      rcases List.mem_cons.mp (p.subset (List.mem_cons_self ..) : x ∈ y :: ys) with h | h
      · omega
      · exact (List.pairwise_cons.mp hy).1 x h
    have e : x = y := by omega
    subst e
    rw [srt_uniq (List.Perm.cons_inv p) (List.pairwise_cons.mp hx).2 (List.pairwise_cons.mp hy).2]
theorem rc_sorted : RCL (rSorted K) (aC (rL rI) aN) rI (fun i => if i.1.length < 64 then some (srtI i.1) else none) := fun vs i z H G hv hz e Q q => by
  obtain ⟨v, ws, rfl, ⟨a, us, rfl, h2, h3⟩, rfl⟩ := hv
  have hz : (if i.1.length < 64 then some (srtI i.1) else none) = some z := hz
  split at hz
  · rename_i hl
    cases hz
    have h3' := pr_ints h3
    subst h3'
    refine ⟨a, i.1, rfl, Or.inl (Or.inl (e a _ h2)), hl, fun ns' p hp hs hn => ?_⟩
    have : ns' = srtI i.1 := srt_uniq (hp.trans (srtI_perm _).symm) hs (srtI_sorted _)
    subst this
    exact q p _ G hn (up_new e hn) (wd_new e hn (ints_pr _))
  · cases hz
def minL : List Int → Option Int
  | [] => none
  | [x] => some x
  | x :: y :: ys => (minL (y :: ys)).map fun m => if m < x then m else x
def maxL : List Int → Option Int
  | [] => none
  | [x] => some x
  | x :: y :: ys => (maxL (y :: ys)).map fun m => if m > x then m else x
theorem minL_ok : ∀ {xs : List Int} {m : Int}, minL xs = some m → m ∈ xs ∧ ∀ y ∈ xs, m ≤ y
  | [x], m, h => by cases h; exact ⟨List.mem_cons_self .., fun y hy => by rw [List.mem_singleton.mp hy]; exact Int.le_refl _⟩
  | x :: y :: ys, m, h => by
    unfold minL at h
    cases e : minL (y :: ys) with
    | none => rw [e] at h; cases h
    | some k =>
      obtain ⟨h1, h2⟩ := minL_ok e
      rw [e] at h
      have h' : (if k < x then k else x) = m := Option.some.inj h
      split at h'
      · subst h'
        exact ⟨List.mem_cons_of_mem _ h1, fun z hz => by
          rcases List.mem_cons.mp hz with hz | hz
          · omega
          · exact h2 z hz⟩
      · subst h'
        exact ⟨List.mem_cons_self .., fun z hz => by
          rcases List.mem_cons.mp hz with hz | hz
          · omega
          · have := h2 z hz; omega⟩
theorem maxL_ok : ∀ {xs : List Int} {m : Int}, maxL xs = some m → m ∈ xs ∧ ∀ y ∈ xs, y ≤ m
  | [x], m, h => by cases h; exact ⟨List.mem_cons_self .., fun y hy => by rw [List.mem_singleton.mp hy]; exact Int.le_refl _⟩
  | x :: y :: ys, m, h => by
    unfold maxL at h
    cases e : maxL (y :: ys) with
    | none => rw [e] at h; cases h
    | some k =>
      obtain ⟨h1, h2⟩ := maxL_ok e
      rw [e] at h
      have h' : (if k > x then k else x) = m := Option.some.inj h
      split at h'
      · subst h'
        exact ⟨List.mem_cons_of_mem _ h1, fun z hz => by
          rcases List.mem_cons.mp hz with hz | hz
          · omega
          · exact h2 z hz⟩
      · subst h'
        exact ⟨List.mem_cons_self .., fun z hz => by
          rcases List.mem_cons.mp hz with hz | hz
          · omega
          · have := h2 z hz; omega⟩
theorem rc_minL : RC (rMin K) (aC (rL rI) aN) rI (fun i => minL i.1) := fun vs i z H G hv hz e Q q => by
  obtain ⟨v, ws, rfl, ⟨a, us, rfl, h2, h3⟩, rfl⟩ := hv
  have h3' := pr_ints h3
  subst h3'
  obtain ⟨m1, m2⟩ := minL_ok hz
  refine ⟨a, i.1, rfl, Or.inl (Or.inl (e a _ h2)), List.length_pos_of_mem m1, fun m hm hle => ?_⟩
  have : m = z := by have := hle z m1; have := m2 m hm; omega
  subst this
  exact q _ H G (Up.refl e) rfl
theorem rc_maxL : RC (rMax K) (aC (rL rI) aN) rI (fun i => maxL i.1) := fun vs i z H G hv hz e Q q => by
  obtain ⟨v, ws, rfl, ⟨a, us, rfl, h2, h3⟩, rfl⟩ := hv
  have h3' := pr_ints h3
  subst h3'
  obtain ⟨m1, m2⟩ := maxL_ok hz
  refine ⟨a, i.1, rfl, Or.inl (Or.inl (e a _ h2)), List.length_pos_of_mem m1, fun m hm hle => ?_⟩
  have : m = z := by have := hle z m1; have := m2 m hm; omega
  subst this
  exact q _ H G (Up.refl e) rfl

/-! ### displays -/
theorem el_lst {ta : TA} {B : AR ι} {m : Option ι} {xs : ι → List α} (h : EA ta σ G W B m) (hb : ∀ G vs i, B.r G vs i → Paired (R.r G) vs (xs i)) (hl : ∀ i, (xs i).length < 100000) : EL (tLst ta) σ G W R (m >>= fun i => some (xs i)) := fun z hz H e e' Q q => by
  obtain ⟨i, hi, hz⟩ := bindS hz
  cases hz
  refine h i hi H e e' _ fun vs H1 G1 u1 r1 => ?_
  have pr := hb _ _ _ r1
  refine ⟨sz_of (by rw [pr.length]; exact Nat.le_of_lt (hl i)), fun p hp => q p _ G1 (fresh_back u1.hh hp) (u1.trans (up_new u1.gh hp)) (wd_new u1.gh hp pr)⟩
theorem e_pair {ma : Option α} {mb : Option β} (ha : E ta σ G W R ma) (hb : E tb σ G W S mb) : E (tTup (tCons ta (tCons tb tNil))) σ G W (rP R S) (ma >>= fun x => mb >>= fun y => some (x, y)) := fun z hz H e e' Q q => by
  obtain ⟨x, hx, hz⟩ := bindS hz
  obtain ⟨y, hy, hz⟩ := bindS hz
  cases hz
  refine ha x hx H e e' _ fun v H1 G1 u1 r1 => ?_
  refine (hb.mono u1.gg (e'.trans u1.hh)) y hy H1 u1.gh (Ex.refl _) _ fun w H2 G2 u2 r2 => ?_
  refine ⟨by show 2 ≤ sizeLine; decide, fun p hp => q _ _ _ ((u1.trans u2).trans (Up.lay u2.gh hp)) ⟨p, v, w, rfl, upd_same, R.mono (u2.gg.trans (Ex.new (fresh_back u2.gh hp))) r1, S.mono (Ex.new (fresh_back u2.gh hp)) r2⟩⟩
end
end Sim

namespace Sim
open PySem L2 Evl

/-! ### mirrors of loops -/
inductive Stp (σ ρ : Type) where
  | nx (s : σ)
  | br (s : σ)
  | rt (r : ρ)
section
variable {α σ ρ : Type}
def stpK (k : σ → Option (σ ⊕ ρ)) : Stp σ ρ → Option (σ ⊕ ρ)
  | .nx s => k s
  | .br s => some (.inl s)
  | .rt r => some (.inr r)
def forL (body : α → σ → Option (Stp σ ρ)) : List α → σ → Option (σ ⊕ ρ)
  | [], s => some (.inl s)
  | x :: xs, s => body x s >>= stpK (forL body xs)
def forS (body : α → σ → Option σ) : List α → σ → Option σ
  | [], s => some s
  | x :: xs, s => body x s >>= forS body xs
def whL (c : σ → Option Bool) (body : σ → Option (Stp σ ρ)) : Nat → σ → Option (σ ⊕ ρ)
  | 0, _ => none
  | n + 1, s => c s >>= fun b => bif b then body s >>= stpK (whL c body n) else some (.inl s)
theorem drop_at {xs : List α} {i : Nat} {x : α} (h : xs[i]? = some x) : xs.drop i = x :: xs.drop (i + 1) := by
  obtain ⟨hl, e⟩ := List.getElem?_eq_some_iff.mp h
  rw [List.drop_eq_getElem_cons hl, e]
theorem forL_at {body : α → σ → Option (Stp σ ρ)} {xs : List α} {i : Nat} {x : α} {s : σ} {r : σ ⊕ ρ} (h : xs[i]? = some x) (hm : forL body (xs.drop i) s = some r) :
    ∃ t, body x s = some t ∧ stpK (forL body (xs.drop (i + 1))) t = some r := by
  rw [drop_at h] at hm
  exact bindS hm
theorem forL_end {body : α → σ → Option (Stp σ ρ)} {xs : List α} {s : σ} {r : σ ⊕ ρ} (hm : forL body (xs.drop xs.length) s = some r) : .inl s = r := by
  rw [List.drop_length] at hm
  exact Option.some.inj hm
theorem forS_at {body : α → σ → Option σ} {xs : List α} {i : Nat} {x : α} {s r : σ} (h : xs[i]? = some x) (hm : forS body (xs.drop i) s = some r) :
    ∃ t, body x s = some t ∧ forS body (xs.drop (i + 1)) t = some r := by
  rw [drop_at h] at hm
  exact bindS hm
theorem forS_end {body : α → σ → Option σ} {xs : List α} {s r : σ} (hm : forS body (xs.drop xs.length) s = some r) : s = r := by
  rw [List.drop_length] at hm
  exact Option.some.inj hm
end
/-- range(lo, hi) -/
def rng (lo hi : Int) : List Int := (List.range (hi - lo).toNat).map fun (i : Nat) => lo + (i : Int)
theorem rng_at {lo hi : Int} {i : Nat} {x : Int} (h : (rng lo hi)[i]? = some x) : x = lo + i ∧ lo + i < hi := by
  unfold rng at h
  rw [List.getElem?_map] at h
  cases e : (List.range (hi - lo).toNat)[i]? with
  | none => rw [e] at h; cases h
  | some k =>
    rw [e] at h
    obtain ⟨hl, ek⟩ := List.getElem?_eq_some_iff.mp e
    rw [List.getElem_range] at ek
    rw [List.length_range] at hl
    subst ek
    exact ⟨(Option.some.inj h).symm, by omega⟩
theorem rng_get {lo hi : Int} {i : Nat} (h : i < (hi - lo).toNat) : (rng lo hi)[i]? = some (lo + i) := by
  unfold rng
  rw [List.getElem?_map, List.getElem?_range h]
  rfl
theorem rng_len (lo hi : Int) : (rng lo hi).length = (hi - lo).toNat := by
  unfold rng
  rw [List.length_map, List.length_range]
def rngM (lo hi : Int) : Option (List Int) := if -100000 ≤ lo ∧ lo ≤ 100000 ∧ -100000 ≤ hi ∧ hi ≤ 100000 then some (rng lo hi) else none

/-! ### the world of a def -/
structure Wo (G0 H0 : Hp) (ls : List Addr) (G H : Hp) (cs : Cs) : Prop where
  w : Wd G H cs
  f : Fr G0 H0 G H ls
  lo : ∀ c ∈ cs, c.1 ∈ ls ∨ H0 c.1 = none
section
variable {K : PySem.W.Frag} {σ : L2.St} {G0 H0 G H G2 H2 : Hp} {ls : List Addr} {cs : Cs} {l : Addr} {cp cp' : CP} {ta tb te tc : TE} {t u : TT} {α β γ ι κ : Type} {R : Rep α} {S : Rep β} {T : Rep γ} {A : AR ι}
theorem Wo.ex (w : Wo G0 H0 ls G H cs) : Ex G H := w.w.ex
theorem Wo.up (w : Wo G0 H0 ls G H cs) (u : Up G H G2 H2) : Wo G0 H0 ls G2 H2 cs := ⟨w.w.up u, w.f.trans u.fr, w.lo⟩
theorem Wo.sc (w : Wo G0 H0 ls G H cs) (u : Ex H H2) : Wo G0 H0 ls G H2 cs := w.up (Up.same w.ex u)
theorem Wo.start (e : Ex G H) : Wo G H [] G H [] := ⟨Wd.nil e, Fr.refl, fun _ h => absurd h List.not_mem_nil⟩
theorem Wo.startC (w : Wd G H cs) : Wo G H (cs.map (·.1)) G H cs := ⟨w, Fr.refl, fun c h => .inl (List.mem_map_of_mem (f := (·.1)) h)⟩
/-- the i-th cell -/
theorem Wd.getAt {i : Nat} (w : Wd G H cs) (h : cs[i]? = some (l, cp)) : G l = none ∧ ∃ o, H l = some o ∧ cp.p G o := w.at_ _ (List.mem_of_getElem? h)
theorem Wo.rlAt {i : Nat} {xs : List α} (w : Wo G0 H0 ls G H cs) (h : cs[i]? = some (l, cL R xs)) : (rL R).r H (.ref l) xs := by
  obtain ⟨h1, o, h2, vs, rfl, h3⟩ := w.w.getAt h
  exact ⟨l, vs, rfl, h2, Paired.mapP h3 fun _ _ => R.mono w.ex⟩
theorem set_map {i : Nat} {c : Addr × CP} (h : cs[i]? = some c) : (cs.set i (c.1, cp')).map (·.1) = cs.map (·.1) := by
  rw [List.map_set]
  have : (cs.map (·.1))[i]? = some c.1 := by rw [List.getElem?_map, h]; rfl
  obtain ⟨hl, e⟩ := List.getElem?_eq_some_iff.mp this
  conv => lhs; rw [← e]
  exact List.set_getElem_self hl
theorem nodup_ix {as : List Addr} (nd : as.Nodup) {i j : Nat} {x : Addr} (h1 : as[i]? = some x) (h2 : as[j]? = some x) : i = j := by
  obtain ⟨a1, a2⟩ := List.getElem?_eq_some_iff.mp h1
  obtain ⟨b1, b2⟩ := List.getElem?_eq_some_iff.mp h2
  have p := List.pairwise_iff_getElem.mp nd
  rcases Nat.lt_trichotomy i j with q | q | q
  · exact absurd (a2.trans b2.symm) (p i j a1 b1 q)
  · exact q
  · exact absurd (b2.trans a2.symm) (p j i b1 a1 q)
theorem mem_set_cell {i : Nat} {c : Addr × CP} (nd : (cs.map (·.1)).Nodup) (h : cs[i]? = some (l, cp)) (hc : c ∈ cs.set i (l, cp')) : c = (l, cp') ∨ (c ∈ cs ∧ c.1 ≠ l) := by
  obtain ⟨j, hj, e⟩ := List.getElem_of_mem hc
  by_cases q : i = j
  · subst q; left; rw [← e]; simp
  · right
    rw [List.getElem_set_ne q] at e
    have hj' : j < cs.length := by rw [List.length_set] at hj; exact hj
    refine ⟨e ▸ List.getElem_mem hj', fun z => q ?_⟩
    have h1 : (cs.map (·.1))[i]? = some l := by rw [List.getElem?_map, h]; rfl
    have h2 : (cs.map (·.1))[j]? = some l := by rw [List.getElem?_map, List.getElem?_eq_getElem hj', e]; exact congrArg some z
    exact nodup_ix nd h1 h2
theorem Fr.put (f : Fr G0 H0 G H ls) {o : HO} (h : l ∈ ls ∨ H0 l = none) : Fr G0 H0 G (upd H l o) ls := ⟨f.gg, fun a u h1 h2 => by
  have ne : a ≠ l := fun z => by
    subst z
    rcases h with h | h
    · exact h2 h
    · rw [h] at h1; cases h1
  rw [upd_ne ne]; exact f.fr a u h1 h2, f.nw, fun a h1 => by
  by_cases q : a = l
  · subst q; rw [upd_same]; simp
  · rw [upd_ne q]; exact f.st a h1⟩
theorem Wo.writeAt {i : Nat} (w : Wo G0 H0 ls G H cs) (h : cs[i]? = some (l, cp)) {o : HO} (hp : cp'.p G o) : Wo G0 H0 ls G (upd H l o) (cs.set i (l, cp')) := by
  obtain ⟨h1, o1, h2, h3⟩ := w.w.getAt h
  have hl : l ∈ ls ∨ H0 l = none := w.lo _ (List.mem_of_getElem? h)
  refine ⟨⟨fun a u e => ?_, fun c hc => ?_, ?_⟩, w.f.put hl, fun c hc => ?_⟩
  · rw [upd_ne (fun z => by subst z; rw [h1] at e; cases e)]; exact w.ex a u e
  · rcases mem_set_cell w.w.nd h hc with hc | ⟨hc, ne⟩
    · subst hc; exact ⟨h1, o, upd_same, hp⟩
    · obtain ⟨k1, o', k2, k3⟩ := w.w.at_ c hc
      exact ⟨k1, o', by rw [upd_ne ne]; exact k2, k3⟩
  · rw [set_map (c := (l, cp)) h]; exact w.w.nd
  · rcases mem_set_cell w.w.nd h hc with hc | ⟨hc, ne⟩
    · subst hc; exact hl
    · exact w.lo c hc
theorem Wo.new (w : Wo G0 H0 ls G H cs) {o : HO} (n : H l = none) (h : cp.p G o) : Wo G0 H0 ls G (upd H l o) ((l, cp) :: cs) := by
  have n0 : H0 l = none := by
    cases q : H0 l with
    | none => rfl
    | some o => exact absurd n (w.f.st l (by rw [q]; simp))
  exact ⟨w.w.new n h, w.f.put (.inr n0), fun c hc => by
    rcases List.mem_cons.mp hc with hc | hc
    · subst hc; exact .inr n0
    · exact w.lo c hc⟩
/-- a new list made by an expression becomes a cell -/
theorem Wo.newL {p : Addr} {xs : List α} (w : Wo G0 H0 ls G H cs) (n : H p = none) (u : Up G H G2 H2) (w2 : Wd G2 H2 [(p, cL R xs)]) : Wo G0 H0 ls G2 H2 ((p, cL R xs) :: cs) := by
  have n0 : H0 p = none := by
    cases q : H0 p with
    | none => rfl
    | some o => exact absurd n (w.f.st p (by rw [q]; simp))
  have w3 := w.up u
  refine ⟨⟨w3.ex, fun c hc => ?_, ?_⟩, w3.f, fun c hc => ?_⟩
  · rcases List.mem_cons.mp hc with hc | hc
    · subst hc; exact w2.head
    · exact w3.w.at_ c hc
  · refine List.nodup_cons.mpr ⟨fun hm => ?_, w.w.nd⟩
    obtain ⟨c, hc, e⟩ := List.mem_map.mp hm
    obtain ⟨_, o', h2, _⟩ := w.w.at_ c hc
    exact ne_of_none h2 n e
  · rcases List.mem_cons.mp hc with hc | hc
    · subst hc; exact .inr n0
    · exact w.lo c hc
theorem Wo.dropAt (w : Wo G0 H0 ls G H cs) (i : Nat) : Wo G0 H0 ls G H (cs.eraseIdx i) := ⟨⟨w.ex, fun c hc => w.w.at_ c (List.mem_of_mem_eraseIdx hc), 
  List.Pairwise.sublist ((List.eraseIdx_sublist cs i).map (·.1)) w.w.nd⟩, w.f, fun c hc => w.lo c (List.mem_of_mem_eraseIdx hc)⟩
/-- a list cell of the def's own becomes data -/
theorem Wo.freezeAt {i : Nat} {xs : List α} (w : Wo G0 H0 ls G H cs) (h : cs[i]? = some (l, cL R xs)) (hl : H0 l = none) : ∃ G2, Wo G0 H0 ls G2 H (cs.eraseIdx i) ∧ Ex G G2 ∧ (rL R).r G2 (.ref l) xs := by
  obtain ⟨h1, o, h2, vs, rfl, h3⟩ := w.w.getAt h
  refine ⟨upd G l (.lst vs), ⟨⟨fun a u e => ?_, fun c hc => ?_, ?_⟩, ⟨w.f.gg.trans (Ex.new h1), w.f.fr, fun a k1 k2 => ?_, w.f.st⟩, fun c hc => w.lo c (List.mem_of_mem_eraseIdx hc)⟩, Ex.new h1, l, vs, rfl, upd_same, Paired.mapP h3 fun _ _ => R.mono (Ex.new h1)⟩
  · by_cases q : a = l
    · subst q; rw [upd_same] at e; cases e; exact h2
    · rw [upd_ne q] at e; exact w.ex a u e
  · obtain ⟨k1, o', k2, k3⟩ := w.w.at_ c (List.mem_of_mem_eraseIdx hc)
    obtain ⟨j, hj, e⟩ := List.getElem?_of_mem hc |>.imp fun _ h => (⟨trivial, h⟩ : True ∧ _)
    have ne : c.1 ≠ l := fun z => by
      rw [List.getElem?_eraseIdx] at e
      have hi : (cs.map (·.1))[i]? = some l := by rw [List.getElem?_map, h]; rfl
      split at e
      · rename_i hlt
        have : (cs.map (·.1))[j]? = some l := by rw [List.getElem?_map, e]; exact congrArg some z
        have := nodup_ix w.w.nd hi this
        omega
      · rename_i hlt
        have : (cs.map (·.1))[j + 1]? = some l := by rw [List.getElem?_map, e]; exact congrArg some z
        have := nodup_ix w.w.nd hi this
        omega
    exact ⟨by rw [upd_ne ne]; exact k1, o', k2, c.2.mono (Ex.new h1) k3⟩
  · exact List.Pairwise.sublist ((List.eraseIdx_sublist cs i).map (·.1)) w.w.nd
  · have ne : a ≠ l := fun z => by subst z; exact k1 hl
    rw [upd_ne ne]; exact w.f.nw a k1 k2
/-- behind a call that changed the i-th cell alone -/
theorem Wo.call1 {i : Nat} (w : Wo G0 H0 ls G H cs) (h : cs[i]? = some (l, cp)) (f : Fr G H G2 H2 [l]) (w2 : Wd G2 H2 [(l, cp')]) : Wo G0 H0 ls G2 H2 (cs.set i (l, cp')) := by
  have hl : l ∈ ls ∨ H0 l = none := w.lo _ (List.mem_of_getElem? h)
  refine ⟨⟨w2.ex, fun c hc => ?_, by rw [set_map (c := (l, cp)) h]; exact w.w.nd⟩, ⟨w.f.gg.trans f.gg, fun a o h1 h2 => ?_, fun a h1 h2 => f.nw a (w.f.st a h1) (w.f.nw a h1 h2), fun a h1 => f.st a (w.f.st a h1)⟩, fun c hc => ?_⟩
  · rcases mem_set_cell w.w.nd h hc with hc | ⟨hc, ne⟩
    · subst hc; exact w2.head
    · obtain ⟨k1, o', k2, k3⟩ := w.w.at_ c hc
      exact ⟨f.nw _ (by rw [k2]; simp) k1, o', f.fr _ _ k2 (fun z => ne (List.mem_singleton.mp z)), c.2.mono f.gg k3⟩
  · refine f.fr a o (w.f.fr a o h1 h2) fun z => ?_
    rw [List.mem_singleton.mp z] at h1 h2
    rcases hl with q | q
    · exact h2 q
    · rw [q] at h1; cases h1
  · rcases mem_set_cell w.w.nd h hc with hc | ⟨hc, ne⟩
    · subst hc; exact hl
    · exact w.lo c hc
theorem Wo.sub1 {i : Nat} (w : Wo G0 H0 ls G H cs) (h : cs[i]? = some (l, cp)) : Wd G H [(l, cp)] := ⟨w.ex, fun c hc => by
  rw [List.mem_singleton.mp hc]; exact w.w.at_ _ (List.mem_of_getElem? h), List.nodup_cons.mpr ⟨List.not_mem_nil, List.nodup_nil⟩⟩
/-- the ends of a def -/
theorem Wo.upE (w : Wo G0 H0 [] G H cs) : Up G0 H0 G H := ⟨w.f.gg, w.ex, fun a o h => w.f.fr a o h List.not_mem_nil, w.f.nw⟩
end
end Sim

namespace Sim
open PySem L2 Evl
section
variable {K : PySem.W.Frag} {σ : L2.St} {G0 H0 G H G2 H2 W : Hp} {ls : List Addr} {cs : Cs} {l : Addr} {cp cp' : CP} {ta tb te tc : TE} {t u : TT} {α β γ ι κ : Type} {R : Rep α} {S : Rep β} {T : Rep γ} {A : AR ι} {D : Ends} {tu tv tz : TS} {g : TG}

/-! ### expressions in the world -/
theorem c_e {m : Option α} {x : α} {Q : VK} (w : Wo G0 H0 ls G H cs) (h : E te σ G H R m) (hm : m = some x) (k : ∀ v H2 G2, Wo G0 H0 ls G2 H2 cs → Ex G G2 → R.r G2 v x → Q v H2) : te σ H Q :=
  h x hm H w.ex (Ex.refl _) Q fun v H2 G2 u r => k v H2 G2 (w.up u) u.gg r
/-- scalars: the value is written out, the data heap stays -/
theorem c_i {m : Option Int} {x : Int} {Q : VK} (w : Wo G0 H0 ls G H cs) (h : E te σ G H rI m) (hm : m = some x) (k : ∀ H2, Wo G0 H0 ls G H2 cs → Q (.int x) H2) : te σ H Q :=
  h x hm H w.ex (Ex.refl _) Q fun v H2 G2 u r => by cases r; exact k H2 (w.sc u.hh)
theorem c_b {m : Option Bool} {x : Bool} {Q : VK} (w : Wo G0 H0 ls G H cs) (h : E te σ G H rB m) (hm : m = some x) (k : ∀ H2, Wo G0 H0 ls G H2 cs → Q (.bl x) H2) : te σ H Q :=
  h x hm H w.ex (Ex.refl _) Q fun v H2 G2 u r => by cases r; exact k H2 (w.sc u.hh)
theorem c_s {m : Option Str} {x : Str} {Q : VK} (w : Wo G0 H0 ls G H cs) (h : E te σ G H rS m) (hm : m = some x) (k : ∀ H2, Wo G0 H0 ls G H2 cs → Q (.str x) H2) : te σ H Q :=
  h x hm H w.ex (Ex.refl _) Q fun v H2 G2 u r => by cases r; exact k H2 (w.sc u.hh)
theorem c_l {m : Option (List α)} {x : List α} {Q : VK} (w : Wo G0 H0 ls G H cs) (h : EL te σ G H R m) (hm : m = some x) (k : ∀ p H2 G2, H0 p = none → Wo G0 H0 ls G2 H2 ((p, cL R x) :: cs) → Ex G G2 → Q (.ref p) H2) : te σ H Q :=
  h x hm H w.ex (Ex.refl _) Q fun p H2 G2 hp u w2 => k p H2 G2 (by
    cases q : H0 p with
    | none => rfl
    | some o => exact absurd hp (w.f.st p (by rw [q]; simp))) (w.newL hp u w2) u.gg
theorem c_t {m : Option Bool} {b : Bool} {Q : Bool → Hp → Prop} (w : Wo G0 H0 ls G H cs) (h : ET t σ H m) (hm : m = some b) (k : ∀ H2, Wo G0 H0 ls G H2 cs → Q b H2) : t σ H Q :=
  h b hm H (Ex.refl _) Q fun H2 e => k H2 (w.sc e)
theorem c_a {m : Option ι} {x : ι} {ta : TA} {Q : List V → Hp → Prop} (w : Wo G0 H0 ls G H cs) (h : EA ta σ G H A m) (hm : m = some x) (k : ∀ vs H2 G2, Wo G0 H0 ls G2 H2 cs → Ex G G2 → A.r G2 vs x → Q vs H2) : ta σ H Q :=
  h x hm H w.ex (Ex.refl _) Q fun v H2 G2 u r => k v H2 G2 (w.up u) u.gg r
/-- an operation on values that stand -/
theorem c_rr {r : R2} {f : α → β → Option γ} {v w' : V} {x : α} {y : β} {z : γ} {Q : VK} (hr : RR r R S T f) (w : Wo G0 H0 ls G H cs) (hv : R.r G v x) (hw : S.r G w' y) (hz : f x y = some z)
    (k : ∀ u H2 G2, Wo G0 H0 ls G2 H2 cs → Ex G G2 → T.r G2 u z → Q u H2) : r v w' H Q := hr v w' x y z H G hv hw hz w.ex Q fun u H2 G2 up r => k u H2 G2 (w.up up) up.gg r
theorem c_rc {r : List V → Hp → VK → Prop} {f : ι → Option γ} {vs : List V} {i : ι} {z : γ} {Q : VK} (hr : RC r A T f) (w : Wo G0 H0 ls G H cs) (hv : A.r G vs i) (hz : f i = some z)
    (k : ∀ u H2 G2, Wo G0 H0 ls G2 H2 cs → Ex G G2 → T.r G2 u z → Q u H2) : r vs H Q := hr vs i z H G hv hz w.ex Q fun u H2 G2 up r => k u H2 G2 (w.up up) up.gg r
theorem c_rcl {r : List V → Hp → VK → Prop} {f : ι → Option (List γ)} {vs : List V} {i : ι} {z : List γ} {Q : VK} (hr : RCL r A T f) (w : Wo G0 H0 ls G H cs) (hv : A.r G vs i) (hz : f i = some z)
    (k : ∀ p H2 G2, H0 p = none → Wo G0 H0 ls G2 H2 ((p, cL T z) :: cs) → Ex G G2 → Q (.ref p) H2) : r vs H Q := hr vs i z H G hv hz w.ex Q fun p H2 G2 hp u w2 => k p H2 G2 (by
    cases q : H0 p with
    | none => rfl
    | some o => exact absurd hp (w.f.st p (by rw [q]; simp))) (w.newL hp u w2) u.gg

/-! ### a def that changes one cell -/
/-- (l, more) with the cell's items ys: f ys more = (x, ys') -/
abbrev P1 {κ α ι : Type} (A : AR ι) (C : Rep κ) (R : Rep α) (f : List κ → ι → Option (α × List κ)) : Sp := PM (aC rA A) (fun i k => [(i.1, cL C k)]) R (fun i k => f k i.2)
abbrev P1L {κ α ι : Type} (A : AR ι) (C : Rep κ) (R : Rep α) (f : List κ → ι → Option (List α × List κ)) : Sp := PML (aC rA A) (fun i k => [(i.1, cL C k)]) R (fun i k => f k i.2)
theorem c_p1 {C : Rep κ} {f : List κ → ι → Option (α × List κ)} {vs : List V} {i : Nat} {j : ι} {ys ys' : List κ} {x : α} {Q : VK} {X : XK} (w : Wo G0 H0 ls G H cs) (hc : cs[i]? = some (l, cL C ys)) (hv : A.r G vs j) (hz : f ys j = some (x, ys'))
    (k : ∀ v H2 G2, Wo G0 H0 ls G2 H2 (cs.set i (l, cL C ys')) → Ex G G2 → R.r G2 v x → Q v H2) : P1 A C R f (.ref l :: vs) H Q X :=
  ⟨G, (l, j), ys, x, ys', ⟨.ref l, vs, rfl, rfl, hv⟩, w.sub1 hc, hz, fun v H2 G2 fr w2 r => k v H2 G2 (w.call1 hc fr w2) fr.gg r⟩
theorem Wo.call1L {i : Nat} {p : Addr} {cq : CP} (w : Wo G0 H0 ls G H cs) (h : cs[i]? = some (l, cp)) (hp : H p = none) (f : Fr G H G2 H2 [l]) (w2 : Wd G2 H2 [(p, cq), (l, cp')]) : Wo G0 H0 ls G2 H2 ((p, cq) :: cs.set i (l, cp')) := by
  have n0 : H0 p = none := by
    cases q : H0 p with
    | none => rfl
    | some o => exact absurd hp (w.f.st p (by rw [q]; simp))
  have w3 := w.call1 h f w2.tail
  refine ⟨⟨w3.ex, fun c hc => ?_, ?_⟩, w3.f, fun c hc => ?_⟩
  · rcases List.mem_cons.mp hc with hc | hc
    · subst hc; exact w2.head
    · exact w3.w.at_ c hc
  · refine List.nodup_cons.mpr ⟨fun hm => ?_, w3.w.nd⟩
    rw [Sim.set_map (c := (l, cp)) h] at hm
    obtain ⟨c, hc, e⟩ := List.mem_map.mp hm
    obtain ⟨_, o', h2, _⟩ := w.w.at_ c hc
    exact ne_of_none h2 hp e
  · rcases List.mem_cons.mp hc with hc | hc
    · subst hc; exact .inr n0
    · exact w3.lo c hc
theorem c_p1l {C : Rep κ} {f : List κ → ι → Option (List α × List κ)} {vs : List V} {i : Nat} {j : ι} {ys ys' : List κ} {x : List α} {Q : VK} {X : XK} (w : Wo G0 H0 ls G H cs) (hc : cs[i]? = some (l, cL C ys)) (hv : A.r G vs j) (hz : f ys j = some (x, ys'))
    (k : ∀ p H2 G2, H0 p = none → Wo G0 H0 ls G2 H2 ((p, cL R x) :: cs.set i (l, cL C ys')) → Ex G G2 → Q (.ref p) H2) : P1L A C R f (.ref l :: vs) H Q X :=
  ⟨G, (l, j), ys, x, ys', ⟨.ref l, vs, rfl, rfl, hv⟩, w.sub1 hc, hz, fun p H2 G2 hp fr w2 => k p H2 G2 (by
    cases q : H0 p with
    | none => rfl
    | some o => exact absurd hp (w.f.st p (by rw [q]; simp))) (w.call1L hc hp fr w2) fr.gg⟩

/-! ### readings opened -/
theorem o_nil {Q : List V → Hp → Prop} (h : Q [] H) : tNil σ H Q := h
theorem o_cons {tr : TA} {Q : List V → Hp → Prop} (h : ta σ H fun x H1 => tr σ H1 fun xs H2 => Q (x :: xs) H2) : tCons ta tr σ H Q := h
theorem o_op {r : R2} {Q : VK} (h : ta σ H fun x H1 => tb σ H1 fun y H2 => r x y H2 Q) : tOp r ta tb σ H Q := h
theorem o_call {sp : Sp} {X : XK} {ta : TA} {Q : VK} (h : ta σ H fun vs H1 => sp vs H1 Q X) : tCall sp [] X ta σ H Q := by
  show ta σ H fun vs H1 => sp (vs ++ []) H1 Q X
  have : (fun (vs : List V) (H1 : Hp) => sp (vs ++ []) H1 Q X) = fun vs H1 => sp vs H1 Q X := by funext vs H1; rw [List.append_nil]
  rw [this]; exact h
theorem o_cb {r : List V → Hp → VK → Prop} {ta : TA} {Q : VK} (h : ta σ H fun vs H1 => r vs H1 Q) : tCB r ta σ H Q := h
theorem o_var {i : Nat} {v : V} {Q : VK} (hi : σ[i]? = some (some v)) (h : Q v H) : tVar i σ H Q := ⟨v, hi, h⟩
theorem o_T {Q : Bool → Hp → Prop} (h : te σ H fun v H1 => ∃ b, v = .bl b ∧ Q b H1) : tTest te σ H Q := h
theorem o_B {Q : Bool → Hp → Prop} (h : te σ H fun v H1 => ∃ b, v = .bl b ∧ Q b H1) : tB te σ H Q := h

/-! ### statements -/
theorem x_next {f b c : L2.St → Hp → Prop} {r : VK} (h : f σ H) : tNext { nx := f, rt := r, bk := b, ct := c } σ H := h
theorem x_set {i : Nat} {m : Option α} {x : α} (w : Wo G0 H0 ls G H cs) (h : E te σ G H R m) (hm : m = some x) (k : ∀ v H2 G2, Wo G0 H0 ls G2 H2 cs → Ex G G2 → R.r G2 v x → tz D (σ.set i (some v)) H2) : tSeq (tAsg te (gName i)) tz D σ H :=
  c_e (Q := fun x H1 => gName i x σ H1 (tz D)) w h hm k
theorem x_setI {i : Nat} {m : Option Int} {x : Int} (w : Wo G0 H0 ls G H cs) (h : E te σ G H rI m) (hm : m = some x) (k : ∀ H2, Wo G0 H0 ls G H2 cs → tz D (σ.set i (some (.int x))) H2) : tSeq (tAsg te (gName i)) tz D σ H :=
  c_i (Q := fun x H1 => gName i x σ H1 (tz D)) w h hm k
theorem x_setB {i : Nat} {m : Option Bool} {x : Bool} (w : Wo G0 H0 ls G H cs) (h : E te σ G H rB m) (hm : m = some x) (k : ∀ H2, Wo G0 H0 ls G H2 cs → tz D (σ.set i (some (.bl x))) H2) : tSeq (tAsg te (gName i)) tz D σ H :=
  c_b (Q := fun x H1 => gName i x σ H1 (tz D)) w h hm k
theorem x_setS {i : Nat} {m : Option Str} {x : Str} (w : Wo G0 H0 ls G H cs) (h : E te σ G H rS m) (hm : m = some x) (k : ∀ H2, Wo G0 H0 ls G H2 cs → tz D (σ.set i (some (.str x))) H2) : tSeq (tAsg te (gName i)) tz D σ H :=
  c_s (Q := fun x H1 => gName i x σ H1 (tz D)) w h hm k
theorem x_setL {i : Nat} {m : Option (List α)} {x : List α} (w : Wo G0 H0 ls G H cs) (h : EL te σ G H R m) (hm : m = some x) (k : ∀ p H2 G2, H0 p = none → Wo G0 H0 ls G2 H2 ((p, cL R x) :: cs) → Ex G G2 → tz D (σ.set i (some (.ref p))) H2) : tSeq (tAsg te (gName i)) tz D σ H :=
  c_l (Q := fun x H1 => gName i x σ H1 (tz D)) w h hm k
/-- name = an expression that changes cells: opened -/
theorem x_setO {i : Nat} (h : te σ H fun v H1 => tz D (σ.set i (some v)) H1) : tSeq (tAsg te (gName i)) tz D σ H := h
theorem x_if {m : Option Bool} {b : Bool} (w : Wo G0 H0 ls G H cs) (h : ET t σ H m) (hm : m = some b) (h1 : b = true → ∀ H2, Wo G0 H0 ls G H2 cs → tu { D with nx := tz D } σ H2) (h2 : b = false → ∀ H2, Wo G0 H0 ls G H2 cs → tv { D with nx := tz D } σ H2) :
    tSeq (tIfS t tu tv) tz D σ H := c_t (Q := fun b H1 => if b = true then tu { D with nx := tz D } σ H1 else tv { D with nx := tz D } σ H1) w h hm fun H2 w2 => by
  cases b with
  | true => exact h1 rfl H2 w2
  | false => exact h2 rfl H2 w2
/-- an if whose test changes cells -/
theorem x_ifO {b : Bool → Prop} (h : t σ H fun b H1 => (b = true → tu { D with nx := tz D } σ H1) ∧ (b = false → tv { D with nx := tz D } σ H1)) (mono : ∀ Q Q' : Bool → Hp → Prop, (∀ b H, Q b H → Q' b H) → t σ H Q → t σ H Q') : tSeq (tIfS t tu tv) tz D σ H :=
  mono _ _ (fun b H ⟨h1, h2⟩ => by
    cases b with
    | true => exact h1 rfl
    | false => exact h2 rfl) h
theorem x_cutif {m : Option Bool} {b : Bool} (M : L2.St → Hp → Prop) (w : Wo G0 H0 ls G H cs) (h : ET t σ H m) (hm : m = some b) (h1 : b = true → ∀ H2, Wo G0 H0 ls G H2 cs → tu { D with nx := M } σ H2) (h2 : b = false → ∀ H2, Wo G0 H0 ls G H2 cs → tv { D with nx := M } σ H2)
    (k : ∀ σ' H', M σ' H' → tz D σ' H') : tCut (tIfS t tu tv) tz D σ H := ⟨M, c_t (Q := fun b H1 => if b = true then tu { D with nx := M } σ H1 else tv { D with nx := M } σ H1) w h hm fun H2 w2 => by
  cases b with
  | true => exact h1 rfl H2 w2
  | false => exact h2 rfl H2 w2, k⟩
theorem x_ret {m : Option α} {x : α} (w : Wo G0 H0 ls G H cs) (h : E te σ G H R m) (hm : m = some x) (k : ∀ v H2 G2, Wo G0 H0 ls G2 H2 cs → Ex G G2 → R.r G2 v x → D.rt v H2) : tSeq (tRet te) tz D σ H := c_e (Q := D.rt) w h hm k
theorem x_retL {m : Option (List α)} {x : List α} (w : Wo G0 H0 ls G H cs) (h : EL te σ G H R m) (hm : m = some x) (k : ∀ p H2 G2, H0 p = none → Wo G0 H0 ls G2 H2 ((p, cL R x) :: cs) → Ex G G2 → D.rt (.ref p) H2) : tSeq (tRet te) tz D σ H := c_l (Q := D.rt) w h hm k
theorem x_retO (h : te σ H D.rt) : tSeq (tRet te) tz D σ H := h
theorem x_drop (h : te σ H fun _ H1 => tz D σ H1) : tSeq (tDrop te) tz D σ H := h
theorem x_aug {i : Nat} {a b z : Int} {m : Option Int} {f : Int → Int → Option Int} {ti : TIp} (w : Wo G0 H0 ls G H cs) (hi : σ[i]? = some (some (.int a))) (h : E te σ G H rI m) (hm : m = some b) (hr : RR ti rI rI rI f) (hz : f a b = some z)
    (k : ∀ H2, Wo G0 H0 ls G H2 cs → tz D (σ.set i (some (.int z))) H2) : tSeq (tAug i te ti) tz D σ H :=
  ⟨.int a, hi, c_i (Q := fun y H1 => ti (.int a) y H1 fun z H2 => tz D (σ.set i (some z)) H2) w h hm fun H2 w2 => hr _ _ a b z H2 G rfl rfl hz w2.ex _ fun u H3 G3 up r => by cases r; exact k H3 (w2.sc up.hh)⟩
/-! ### list cells, by methods -/
theorem x_app {i j : Nat} {m : Option α} {x : α} {xs : List α} (w : Wo G0 H0 ls G H cs) (hc : cs[j]? = some (l, cL R xs)) (hs : sz xs.length = true) (hi : σ[i]? = some (some (.ref l))) (h : E te σ G H R m) (hm : m = some x)
    (k : ∀ H2 G2, Wo G0 H0 ls G2 H2 (cs.set j (l, cL R (xs ++ [x]))) → Ex G G2 → tz D σ H2) : tSeq (tDrop (tBM K "list" rAppend (tVar i) (tCons te tNil))) tz D σ H := by
  obtain ⟨_, o, h2, vs, rfl, h3⟩ := w.w.getAt hc
  refine ⟨.ref l, hi, .inl ⟨rfl, vs, Or.inl (Or.inl h2)⟩, c_e (Q := fun x H1 => rAppend (.ref l) [x] H1 fun _ H3 => tz D σ H3) w h hm fun v H3 G3 w3 e r => ?_⟩
  obtain ⟨_, o3, k2, vs3, rfl, k3⟩ := w3.w.getAt hc
  refine ⟨l, vs3, v, rfl, rfl, k2, by rw [k3.length]; exact sz_l hs, k _ _ (w3.writeAt hc ⟨vs3 ++ [v], rfl, pr_app k3 (.cons r .nil)⟩) e⟩
/-- append, the item made by an expression that changes cells: the last step -/
theorem c_app {j : Nat} {x : α} {v : V} {xs : List α} {Q : VK} (w : Wo G0 H0 ls G H cs) (hc : cs[j]? = some (l, cL R xs)) (hs : sz xs.length = true) (r : R.r G v x) (k : ∀ H2, Wo G0 H0 ls G H2 (cs.set j (l, cL R (xs ++ [x]))) → Q .non H2) : rAppend (.ref l) [v] H Q := by
  obtain ⟨_, o3, k2, vs3, rfl, k3⟩ := w.w.getAt hc
  exact ⟨l, vs3, v, rfl, rfl, k2, by rw [k3.length]; exact sz_l hs, k _ (w.writeAt hc ⟨vs3 ++ [v], rfl, pr_app k3 (.cons r .nil)⟩)⟩
theorem o_bm {rr : V → List V → Hp → VK → Prop} {i j : Nat} {xs : List α} {ta : TA} {Q : VK} (w : Wo G0 H0 ls G H cs) (hc : cs[j]? = some (l, cL R xs)) (hi : σ[i]? = some (some (.ref l))) (h : ta σ H fun vs H2 => rr (.ref l) vs H2 Q) : tBM K "list" rr (tVar i) ta σ H Q := by
  obtain ⟨_, o, h2, vs, rfl, h3⟩ := w.w.getAt hc
  exact ⟨.ref l, hi, .inl ⟨rfl, vs, Or.inl (Or.inl h2)⟩, h⟩
theorem o_bm0 {rr : V → List V → Hp → VK → Prop} {i j : Nat} {xs : List α} {Q : VK} (w : Wo G0 H0 ls G H cs) (hc : cs[j]? = some (l, cL R xs)) (hi : σ[i]? = some (some (.ref l))) (h : rr (.ref l) [] H Q) : tBM0 K "list" rr (tVar i) σ H Q := by
  obtain ⟨_, o, h2, vs, rfl, h3⟩ := w.w.getAt hc
  exact ⟨.ref l, hi, .inl ⟨rfl, vs, Or.inl (Or.inl h2)⟩, h⟩
/-- xs.pop(), xs.pop(i), insert, reverse, clear -/
def popM (xs : List α) : Option (α × List α) := xs[xs.length - 1]? >>= fun x => some (x, xs.dropLast)
def popAtM (xs : List α) (i : Int) : Option (α × List α) := if -(2 ^ 63) ≤ i ∧ i < 2 ^ 63 then (seqIndex? i xs.length >>= fun k => xs[k]? >>= fun x => some (x, xs.eraseIdx k)) else none
def insM (xs : List α) (i : Int) (x : α) : Option (List α) := if sz xs.length = true ∧ 0 ≤ i ∧ i < 2 ^ 63 then some (xs.take i.toNat ++ [x] ++ xs.drop i.toNat) else none
def appM (xs : List α) (x : α) : Option (List α) := bif sz xs.length then some (xs ++ [x]) else none
theorem appM_ok {xs ys : List α} {x : α} (h : appM xs x = some ys) : sz xs.length = true ∧ ys = xs ++ [x] := by
  unfold appM at h
  cases e : sz xs.length with
  | true => rw [e] at h; exact ⟨rfl, (Option.some.inj h).symm⟩
  | false => rw [e] at h; cases h
theorem pr_take {R : V → α → Prop} : ∀ (n : Nat) {vs : List V} {xs : List α}, Paired R vs xs → Paired R (vs.take n) (xs.take n)
  | 0, _, _, _ => .nil
  | n + 1, _, _, .nil => .nil
  | n + 1, _, _, .cons r t => .cons r (pr_take n t)
theorem pr_drop {R : V → α → Prop} : ∀ (n : Nat) {vs : List V} {xs : List α}, Paired R vs xs → Paired R (vs.drop n) (xs.drop n)
  | 0, _, _, h => h
  | n + 1, _, _, .nil => .nil
  | n + 1, _, _, .cons r t => pr_drop n t
theorem pr_erase {R : V → α → Prop} : ∀ (n : Nat) {vs : List V} {xs : List α}, Paired R vs xs → Paired R (vs.eraseIdx n) (xs.eraseIdx n)
  | _, _, _, .nil => .nil
  | 0, _, _, .cons r t => t
  | n + 1, _, _, .cons r t => .cons r (pr_erase n t)
theorem pr_set {R : V → α → Prop} {v : V} {x : α} (r0 : R v x) : ∀ (n : Nat) {vs : List V} {xs : List α}, Paired R vs xs → Paired R (vs.set n v) (xs.set n x)
  | _, _, _, .nil => .nil
  | 0, _, _, .cons r t => .cons r0 t
  | n + 1, _, _, .cons r t => .cons r (pr_set r0 n t)
theorem pr_dropLast {R : V → α → Prop} {vs : List V} {xs : List α} (h : Paired R vs xs) : Paired R vs.dropLast xs.dropLast := by
  rw [List.dropLast_eq_take, List.dropLast_eq_take, h.length]; exact pr_take _ h
theorem pr_rev {R : V → α → Prop} : ∀ {vs : List V} {xs : List α}, Paired R vs xs → Paired R vs.reverse xs.reverse
  | _, _, .nil => .nil
  | _, _, .cons r t => by rw [List.reverse_cons, List.reverse_cons]; exact pr_app (pr_rev t) (.cons r .nil)
theorem c_pop {j : Nat} {x : α} {xs ys : List α} {Q : VK} (w : Wo G0 H0 ls G H cs) (hc : cs[j]? = some (l, cL R xs)) (hm : popM xs = some (x, ys)) (k : ∀ v H2, Wo G0 H0 ls G H2 (cs.set j (l, cL R ys)) → R.r G v x → Q v H2) : rPop (.ref l) [] H Q := by
  obtain ⟨_, o3, k2, vs, rfl, k3⟩ := w.w.getAt hc
  obtain ⟨x', hx, e⟩ := bindS hm
  cases e
  obtain ⟨v, hv, r⟩ := pr_get k3 hx
  exact ⟨l, vs, v, rfl, rfl, k2, by rw [k3.length]; exact hv, k v _ (w.writeAt hc ⟨vs.dropLast, rfl, pr_dropLast k3⟩) r⟩
theorem c_popAt {j : Nat} {i : Int} {x : α} {xs ys : List α} {Q : VK} (w : Wo G0 H0 ls G H cs) (hc : cs[j]? = some (l, cL R xs)) (hm : popAtM xs i = some (x, ys)) (k : ∀ v H2, Wo G0 H0 ls G H2 (cs.set j (l, cL R ys)) → R.r G v x → Q v H2) : rPopAt (.ref l) [.int i] H Q := by
  obtain ⟨_, o3, k2, vs, rfl, k3⟩ := w.w.getAt hc
  unfold popAtM at hm
  split at hm
  · rename_i hb
    obtain ⟨n, hn, hm⟩ := bindS hm
    obtain ⟨x', hx, e⟩ := bindS hm
    cases e
    obtain ⟨v, hv, r⟩ := pr_get k3 hx
    exact ⟨l, vs, i, n, v, rfl, rfl, k2, hb.1, hb.2, by rw [k3.length]; exact hn, hv, k v _ (w.writeAt hc ⟨vs.eraseIdx n, rfl, pr_erase n k3⟩) r⟩
  · cases hm
abbrev rIns : V → List V → Hp → VK → Prop := fun x vs H Q => ∃ (l : Addr) (xs : List V) (i : Int) (y : V), x = .ref l ∧ vs = [.int i, y] ∧ H l = some (.lst xs) ∧ xs.length < sizeLine ∧ 0 ≤ i ∧ i < 2 ^ 63 ∧ Q .non (upd H l (.lst (xs.take i.toNat ++ [y] ++ xs.drop i.toNat)))
def rInsN : V → List V → Hp → VK → Prop := rIns
theorem c_ins {j : Nat} {i : Int} {x : α} {v : V} {xs ys : List α} {Q : VK} (w : Wo G0 H0 ls G H cs) (hc : cs[j]? = some (l, cL R xs)) (r : R.r G v x) (hm : insM xs i x = some ys) (k : ∀ H2, Wo G0 H0 ls G H2 (cs.set j (l, cL R ys)) → Q .non H2) : rInsN (.ref l) [.int i, v] H Q := by
  obtain ⟨_, o3, k2, vs, rfl, k3⟩ := w.w.getAt hc
  unfold insM at hm
  split at hm
  · rename_i hb
    cases hm
    exact ⟨l, vs, i, v, rfl, rfl, k2, by rw [k3.length]; exact sz_l hb.1, hb.2.1, hb.2.2, k _ (w.writeAt hc ⟨_, rfl, pr_app (pr_app (pr_take _ k3) (.cons r .nil)) (pr_drop _ k3)⟩)⟩
  · cases hm
theorem c_rev {j : Nat} {xs : List α} {Q : VK} (w : Wo G0 H0 ls G H cs) (hc : cs[j]? = some (l, cL R xs)) (k : ∀ H2, Wo G0 H0 ls G H2 (cs.set j (l, cL R xs.reverse)) → Q .non H2) : rReverse (.ref l) [] H Q := by
  obtain ⟨_, o3, k2, vs, rfl, k3⟩ := w.w.getAt hc
  exact ⟨l, vs, rfl, rfl, k2, k _ (w.writeAt hc ⟨_, rfl, pr_rev k3⟩)⟩
theorem c_clear {j : Nat} {xs : List α} {Q : VK} (w : Wo G0 H0 ls G H cs) (hc : cs[j]? = some (l, cL R xs)) (k : ∀ H2, Wo G0 H0 ls G H2 (cs.set j (l, cL R [])) → Q .non H2) : rClear (.ref l) [] H Q := by
  obtain ⟨_, o3, k2, vs, rfl, k3⟩ := w.w.getAt hc
  exact ⟨l, vs, rfl, rfl, k2, k _ (w.writeAt hc ⟨_, rfl, .nil⟩)⟩
theorem mt_insN {X : Cx} : MtR X "list.insert" rInsN := mt_insert
/-- xs[i] = e -/
def setM (xs : List α) (i : Int) (x : α) : Option (List α) := ixN xs.length i >>= fun j => some (xs.set j x)
theorem x_setIx {a j : Nat} {te ti : TE} {m : Option α} {mi : Option Int} {x : α} {i : Int} {xs ys : List α} (w : Wo G0 H0 ls G H cs) (hc : cs[j]? = some (l, cL R xs)) (hi : σ[a]? = some (some (.ref l))) (h : E te σ G H R m) (hm : m = some x)
    (h' : E ti σ G H rI mi) (hm' : mi = some i) (hy : setM xs i x = some ys) (k : ∀ H2 G2, Wo G0 H0 ls G2 H2 (cs.set j (l, cL R ys)) → Ex G G2 → tz D σ H2) : tSeq (tAsg te (gSub (tVar a) ti rSetL)) tz D σ H :=
  h x hm H w.ex (Ex.refl _) (fun x H1 => gSub (tVar a) ti rSetL x σ H1 (tz D)) fun v H3 G3 u r => by
    have w3 := w.up u
    refine ⟨.ref l, hi, (h'.mono u.gg u.hh) i hm' H3 w3.ex (Ex.refl _) _ fun v' H4 G4 u' r' => ?_⟩
    cases r'
    have w4 := w3.up u'
    obtain ⟨_, o3, k2, vs, rfl, k3⟩ := w4.w.getAt hc
    obtain ⟨n, hn, e⟩ := bindS hy
    cases e
    exact ⟨l, vs, i, n, rfl, rfl, k2, by rw [k3.length]; exact hn, k _ _ (w4.writeAt hc ⟨_, rfl, pr_set (R.mono u'.gg r) n k3⟩) (u.gg.trans u'.gg)⟩

/-! ### loops -/
theorem x_forL {xs : List α} {tl : TE} {m : Option (List α)} (w : Wo G0 H0 ls G H cs) (h : E tl σ G H (rL R) m) (hm : m = some xs) (P : Nat → Hp → Hp → L2.St → Prop) (hP : ∀ i G' H' σ', P i G' H' σ' → Ex G' H')
    (h0 : ∀ G' H', Wo G0 H0 ls G' H' cs → Ex G G' → P 0 G' H' σ)
    (hs : ∀ G1, Ex G G1 → ∀ i x v σ' G' H', xs[i]? = some x → Ex G1 G' → P i G' H' σ' → R.r G' v x → g v σ' H' fun σ2 H2 => tu { D with nx := fun σ' H' => ∃ G', Ex G1 G' ∧ P (i + 1) G' H' σ', ct := fun σ' H' => ∃ G', Ex G1 G' ∧ P (i + 1) G' H' σ', bk := tz D } σ2 H2)
    (hd : ∀ σ' G' H', Ex G G' → P xs.length G' H' σ' → tz D σ' H') : tSeq (tFor (iList K tl) g tu) tz D σ H :=
  h xs hm H w.ex (Ex.refl _) _ fun v H1 G1 u r => by
    obtain ⟨a, vs, rfl, h2, h3⟩ := r
    refine ⟨a, rfl, ⟨vs, Or.inl (Or.inl (u.gh a _ h2))⟩, for_list (K := K) (a := a) (xs := vs) (fun i σ' H' => ∃ G', Ex G1 G' ∧ P i G' H' σ') ⟨G1, Ex.refl _, h0 G1 H1 (w.up u) u.gg⟩ ?_ ?_ ?_⟩
    · rintro i σ' H' _ ⟨G', e, p⟩
      exact Or.inl (Or.inl (hP _ _ _ _ p a _ (e a _ h2)))
    · rintro i y σ' H' hy ⟨G', e, p⟩
      obtain ⟨x, hx, r⟩ := pr_get' h3 hy
      exact hs G1 u.gg i x y σ' G' H' hx e p (R.mono e r)
    · rintro σ' H' ⟨G', e, p⟩
      rw [h3.length] at p
      exact hd σ' G' H' (u.gg.trans e) p
theorem x_forR {ta : TA} {n : Int} {m : Option (Int × Unit)} {xs : List Int} (w : Wo G0 H0 ls G H cs) (h : EA ta σ G H (aC rI aN) m) (hm : m = some (n, ())) (hx : rngM 0 n = some xs) (P : Nat → Hp → Hp → L2.St → Prop)
    (h0 : ∀ G' H', Wo G0 H0 ls G' H' cs → Ex G G' → P 0 G' H' σ)
    (hs : ∀ i x σ' G' H', xs[i]? = some x → P i G' H' σ' → g (.int x) σ' H' fun σ2 H2 => tu { D with nx := fun σ' H' => ∃ G', P (i + 1) G' H' σ', ct := fun σ' H' => ∃ G', P (i + 1) G' H' σ', bk := tz D } σ2 H2)
    (hd : ∀ σ' G' H', P xs.length G' H' σ' → tz D σ' H') : tSeq (tFor (iRng1 ta) g tu) tz D σ H :=
  h _ hm H w.ex (Ex.refl _) _ fun v H1 G1 u r => by
    obtain ⟨v1, ws, rfl, e1, rfl⟩ := r
    cases e1
    unfold rngM at hx
    split at hx
    · rename_i hb
      cases hx
      refine ⟨n, rfl, by omega, by omega, for_range (lo := 0) (n := n.toNat) (fun i σ' H' => ∃ G', P i G' H' σ') ⟨G1, h0 G1 H1 (w.up u) u.gg⟩ ?_ ?_⟩
      · rintro i σ' H' hi ⟨G', p⟩
        exact hs i _ σ' G' H' (rng_get (by omega)) p
      · rintro σ' H' ⟨G', p⟩
        refine hd σ' G' H' ?_
        rw [rng_len]
        have : (n - 0).toNat = n.toNat := by omega
        rw [this]; exact p
    · cases hx
theorem x_forR2 {ta : TA} {lo n : Int} {m : Option (Int × Int × Unit)} {xs : List Int} (w : Wo G0 H0 ls G H cs) (h : EA ta σ G H (aC rI (aC rI aN)) m) (hm : m = some (lo, n, ())) (hx : rngM lo n = some xs) (P : Nat → Hp → Hp → L2.St → Prop)
    (h0 : ∀ G' H', Wo G0 H0 ls G' H' cs → Ex G G' → P 0 G' H' σ)
    (hs : ∀ i x σ' G' H', xs[i]? = some x → P i G' H' σ' → g (.int x) σ' H' fun σ2 H2 => tu { D with nx := fun σ' H' => ∃ G', P (i + 1) G' H' σ', ct := fun σ' H' => ∃ G', P (i + 1) G' H' σ', bk := tz D } σ2 H2)
    (hd : ∀ σ' G' H', P xs.length G' H' σ' → tz D σ' H') : tSeq (tFor (iRng2 ta) g tu) tz D σ H :=
  h _ hm H w.ex (Ex.refl _) _ fun v H1 G1 u r => by
    obtain ⟨v1, ws, rfl, e1, v2, ws2, rfl, e2, rfl⟩ := r
    cases e1
    cases e2
    unfold rngM at hx
    split at hx
    · rename_i hb
      cases hx
      refine ⟨lo, n, rfl, ⟨by omega, by omega, by omega, by omega⟩, for_range (lo := lo) (n := (n - lo).toNat) (fun i σ' H' => ∃ G', P i G' H' σ') ⟨G1, h0 G1 H1 (w.up u) u.gg⟩ ?_ ?_⟩
      · rintro i σ' H' hi ⟨G', p⟩
        exact hs i _ σ' G' H' (rng_get hi) p
      · rintro σ' H' ⟨G', p⟩
        refine hd σ' G' H' ?_
        rw [rng_len]
        exact p
    · cases hx
theorem g_name {j : Nat} {v : V} {Q : L2.St → Hp → Prop} (h : Q (σ.set j (some v)) H) : gName j v σ H Q := h
theorem g_pair {i j : Nat} {v : V} {p : α × β} {Q : L2.St → Hp → Prop} (r : (rP R S).r G v p) (e : Ex G H) (k : ∀ x y, R.r G x p.1 → S.r G y p.2 → Q ((σ.set i (some x)).set j (some y)) H) : gTup K 2 (gCons (gName i) (gCons (gName j) gNil)) v σ H Q := by
  obtain ⟨a, x, y, rfl, h2, h3, h4⟩ := r
  exact ⟨a, [x, y], rfl, Or.inl (Or.inl (e a _ h2)), rfl, x, [y], rfl, y, [], rfl, rfl, k x y h3 h4⟩
/-- while -/
theorem x_wh {ρ ς : Type} {c : ς → Option Bool} {body : ς → Option (Stp ς ρ)} {n : Nat} {s : ς} {r : ς ⊕ ρ} (hm : whL c body n s = some r) (P : ς → L2.St → Hp → Prop) (h0 : P s σ H)
    (ht : ∀ n s σ' H', P s σ' H' → whL c body n s = some r → ∃ b, c s = some b ∧ ∀ Q : Bool → Hp → Prop, (∀ H2, P s σ' H2 → Q b H2) → t σ' H' Q)
    (hs : ∀ n s σ' H', P s σ' H' → (body s >>= stpK (whL c body n)) = some r → tu { D with nx := fun σ2 H2 => ∃ s2, P s2 σ2 H2 ∧ whL c body n s2 = some r, ct := fun σ2 H2 => ∃ s2, P s2 σ2 H2 ∧ whL c body n s2 = some r, bk := tz D } σ' H')
    (hd : ∀ s σ' H', P s σ' H' → r = .inl s → tz D σ' H') : tSeq (tWhile t tu) tz D σ H := by
  refine ⟨fun n σ' H' => ∃ s, P s σ' H' ∧ whL c body n s = some r, ⟨n, s, h0, hm⟩, ?_⟩
  rintro n σ' H' ⟨s, p, hm⟩
  obtain ⟨b, hb, kb⟩ := ht n s σ' H' p hm
  refine kb _ fun H2 p2 => ?_
  cases n with
  | zero => cases hm
  | succ n =>
    have hm' : (c s >>= fun b => bif b then body s >>= stpK (whL c body n) else some (.inl s)) = some r := hm
    rw [hb] at hm'
    cases b with
    | true => exact ⟨_, fun σ2 H2 ⟨s2, q⟩ => ⟨n, Nat.lt_succ_self n, s2, q⟩, hs n s σ' H2 p2 hm'⟩
    | false => exact hd s σ' H2 p2 (Option.some.inj hm').symm
end
end Sim

namespace Sim
open PySem L2 Evl
section
variable {α β : Type}
/-- [f2 x for x in xs if f x] -/
def lcM (f : α → Option Bool) (f2 : α → Option β) : List α → Option (List β)
  | [] => some []
  | x :: xs => f x >>= fun b => bif b then f2 x >>= fun y => lcM f f2 xs >>= fun ys => some (y :: ys) else lcM f f2 xs
/-- [f2 x for x in xs] -/
def mapO (f2 : α → Option β) : List α → Option (List β)
  | [] => some []
  | x :: xs => f2 x >>= fun y => mapO f2 xs >>= fun ys => some (y :: ys)
def lcS (f : α → Option Bool) (f2 : α → Option β) (xs : List α) : Option (List β) := bif sz xs.length then lcM f f2 xs else none
def mapS (f2 : α → Option β) (xs : List α) : Option (List β) := bif sz xs.length then mapO f2 xs else none
theorem lcM_true (f2 : α → Option β) : ∀ xs, lcM (fun _ => some true) f2 xs = mapO f2 xs
  | [] => rfl
  | x :: xs => by
    show (f2 x >>= fun y => lcM (fun _ => some true) f2 xs >>= fun ys => some (y :: ys)) = _
    rw [lcM_true f2 xs]; rfl
theorem mapS_eq (f2 : α → Option β) : mapS f2 = lcS (fun _ => some true) f2 := by
  funext xs
  unfold mapS lcS
  rw [lcM_true]
theorem lcS_ok {f : α → Option Bool} {f2 : α → Option β} {xs : List α} {ys : List β} (h : lcS f f2 xs = some ys) : sz xs.length = true ∧ lcM f f2 xs = some ys := by
  unfold lcS at h
  cases e : sz xs.length with
  | true => rw [e] at h; exact ⟨rfl, h⟩
  | false => rw [e] at h; cases h
end
section
variable {K : PySem.W.Frag} {σ : L2.St} {G H W : Hp} {te tl : TE} {tt : TT} {α β γ : Type} {R : Rep α} {S : Rep β} {T : Rep γ}
/-- a turn's word: the list so far, what is left -/
def Lw (G0 H0 : Hp) (T : Rep γ) (f : α → Option Bool) (f2 : α → Option γ) (xs : List α) (zs : List γ) (D : Addr) (i : Nat) (H : Hp) : Prop :=
  ∃ G acc ys rest, H0 D = none ∧ Up G0 H0 G H ∧ G D = none ∧ H D = some (.lst acc) ∧ Paired (T.r G) acc ys ∧ lcM f f2 (xs.drop i) = some rest ∧ ys ++ rest = zs ∧ ys.length ≤ i
theorem lw_turn {G0 H0 H : Hp} {f : α → Option Bool} {f2 : α → Option γ} {xs : List α} {zs : List γ} {D : Addr} {i : Nat} {x : α} {σ2 : L2.St} (hx : xs[i]? = some x) (hs : sz xs.length = true) (p : Lw G0 H0 T f f2 xs zs D i H)
    (ht : ∀ G', Ex G0 G' → Ex H0 H → Ex G' H → ET tt σ2 H (f x)) (he : ∀ G' H', Ex G0 G' → Ex H0 H' → Ex H H' → Ex G' H' → E te σ2 G' H' T (f2 x)) :
    tt σ2 H fun b H3 => if b = true then te σ2 H3 fun y H4 => ∃ acc, H4 D = some (.lst acc) ∧ acc.length < sizeLine ∧ Lw G0 H0 T f f2 xs zs D (i + 1) (upd H4 D (.lst (acc ++ [y]))) else Lw G0 H0 T f f2 xs zs D (i + 1) H3 := by
  obtain ⟨G, acc, ys, rest, p1, p2, p3, p4, p5, p6, p7, p8⟩ := p
  rw [drop_at hx] at p6
  obtain ⟨b, hb, p6⟩ := bindS p6
  have hi : i < xs.length := (List.getElem?_eq_some_iff.mp hx).1
  refine ht G p2.gg p2.hh p2.gh b hb H (Ex.refl _) _ fun H3 e3 => ?_
  cases b with
  | false => exact ⟨G, acc, ys, rest, p1, p2.trans (Up.same p2.gh e3), p3, e3 _ _ p4, p5, p6, p7, Nat.le_succ_of_le p8⟩
  | true =>
    obtain ⟨y, hy, p6⟩ := bindS p6
    obtain ⟨r2, hr, p6⟩ := bindS p6
    cases p6
    show te σ2 H3 _
    refine he G H3 p2.gg (p2.hh.trans e3) e3 (p2.gh.trans e3) y hy H3 (p2.gh.trans e3) (Ex.refl _) _ fun v H4 G4 u r => ?_
    have q2 : Up G0 H0 G4 H4 := (p2.trans (Up.same p2.gh e3)).trans u
    have q3 : G4 D = none := u.nw D (by rw [e3 _ _ p4]; simp) p3
    have q4 := u.hh _ _ (e3 _ _ p4)
    refine ⟨acc, q4, by rw [p5.length]; exact sz_lt (by have := of_decide_eq_true hs; omega), G4, acc ++ [v], ys ++ [y], r2, p1, ⟨q2.gg, fun a o h => ?_, Ex.mut q2.hh p1, q2.nw⟩, q3, upd_same, pr_app (Paired.mapP p5 fun _ _ => T.mono u.gg) (.cons r .nil), hr, by rw [List.append_assoc]; exact p7, by rw [List.length_append]; exact Nat.succ_le_succ p8⟩
    rw [upd_ne (fun z => by subst z; rw [q3] at h; cases h)]
    exact q2.gh a o h
theorem lw_end {G0 H0 H : Hp} {f : α → Option Bool} {f2 : α → Option γ} {xs : List α} {zs : List γ} {D : Addr} (p : Lw G0 H0 T f f2 xs zs D xs.length H) : ∃ G, H0 D = none ∧ Up G0 H0 G H ∧ Wd G H [(D, cL T zs)] := by
  obtain ⟨G, acc, ys, rest, p1, p2, p3, p4, p5, p6, p7, p8⟩ := p
  rw [List.drop_length] at p6
  cases p6
  rw [List.append_nil] at p7
  subst p7
  exact ⟨G, p1, p2, p2.gh, fun c hc => by
    rw [List.mem_singleton.mp hc]; exact ⟨p3, _, p4, acc, rfl, p5⟩, List.nodup_cons.mpr ⟨List.not_mem_nil, List.nodup_nil⟩⟩
theorem lw_start {G0 H0 : Hp} {f : α → Option Bool} {f2 : α → Option γ} {xs : List α} {zs : List γ} {D : Addr} (e : Ex G0 H0) (hD : H0 D = none) (h : lcM f f2 xs = some zs) : Lw G0 H0 T f f2 xs zs D 0 (upd H0 D (.lst [])) :=
  ⟨G0, [], [], zs, hD, up_new e hD, fresh_back e hD, upd_same, .nil, h, rfl, Nat.le_refl _⟩
theorem el_lcL {vs : List Nat} {j : Nat} {m : Option (List α)} {f : α → Option Bool} {f2 : α → Option γ} (h : E tl σ G W (rL R) m) (hw : ∀ x, wipe ((wipe σ vs).set j (some x)) vs = wipe σ vs)
    (ht : ∀ x v G' W', Ex G G' → Ex W W' → Ex G' W' → R.r G' v x → ET tt ((wipe σ vs).set j (some v)) W' (f x))
    (he : ∀ x v G' W', Ex G G' → Ex W W' → Ex G' W' → R.r G' v x → E te ((wipe σ vs).set j (some v)) G' W' T (f2 x)) :
    EL (tLc (iList K tl) (gName j) tt te vs) σ G W T (m >>= fun xs => lcS f f2 xs) := fun zs hz H e e' Q q => by
  obtain ⟨xs, hx, hz⟩ := bindS hz
  obtain ⟨hs, hz⟩ := lcS_ok hz
  refine h xs hx H e e' _ fun v H1 G1 u r => ?_
  obtain ⟨a, us, rfl, h2, h3⟩ := r
  refine ⟨a, rfl, ⟨us, Or.inl (Or.inl (u.gh a _ h2))⟩, fun D hD => lc_list (xs := us) (Lw G1 H1 T f f2 xs zs D) (lw_start u.gh hD hz) (fun i H' _ p => ?_) (fun i y H' hy p => ?_) fun H' p => ?_⟩
  · obtain ⟨G', _, _, _, _, p2, _⟩ := p
    exact Or.inl (Or.inl (p2.gh a _ (p2.gg a _ h2)))
  · obtain ⟨x, hx', r⟩ := pr_get' h3 hy
    exact ⟨hw y, lw_turn hx' hs p (fun G' e1 e2 e3 => ht x y G' H' (u.gg.trans e1) ((e'.trans u.hh).trans e2) e3 (R.mono e1 r)) fun G' H2 e1 e2 _ e3 => he x y G' H2 (u.gg.trans e1) ((e'.trans u.hh).trans e2) e3 (R.mono e1 r)⟩
  · rw [h3.length] at p
    obtain ⟨G', k1, k2, k3⟩ := lw_end p
    exact q D H' G' (fresh_back u.hh k1) (u.trans k2) k3
theorem el_lcR {ta : TA} {vs : List Nat} {j : Nat} {m : Option (Int × Unit)} {f : Int → Option Bool} {f2 : Int → Option γ} (h : EA ta σ G W (aC rI aN) m) (hw : ∀ x, wipe ((wipe σ vs).set j (some x)) vs = wipe σ vs)
    (ht : ∀ x G' W', Ex G G' → Ex W W' → Ex G' W' → ET tt ((wipe σ vs).set j (some (.int x))) W' (f x))
    (he : ∀ x G' W', Ex G G' → Ex W W' → Ex G' W' → E te ((wipe σ vs).set j (some (.int x))) G' W' T (f2 x)) :
    EL (tLc (iRng1 ta) (gName j) tt te vs) σ G W T (m >>= fun n => rngM 0 n.1 >>= fun xs => lcS f f2 xs) := fun zs hz H e e' Q q => by
  obtain ⟨n, hn, hz⟩ := bindS hz
  obtain ⟨xs, hx, hz⟩ := bindS hz
  obtain ⟨hs, hz⟩ := lcS_ok hz
  refine h n hn H e e' _ fun v H1 G1 u r => ?_
  obtain ⟨v1, ws, rfl, e1, rfl⟩ := r
  cases e1
  unfold rngM at hx
  split at hx
  · rename_i hb
    cases hx
    have hl : (rng 0 n.1).length = n.1.toNat := by rw [rng_len]; omega
    refine ⟨n.1, rfl, by omega, by omega, fun D hD => lc_range (lo := 0) (n := n.1.toNat) (Lw G1 H1 T f f2 (rng 0 n.1) zs D) (lw_start u.gh hD hz) (fun i H' hi p => ?_) fun H' p => ?_⟩
    · have hx' : (rng 0 n.1)[i]? = some (0 + (i : Int)) := rng_get (by omega)
      exact ⟨hw _, lw_turn hx' hs p (fun G' e1 e2 e3 => ht _ G' H' (u.gg.trans e1) ((e'.trans u.hh).trans e2) e3) fun G' H2 e1 e2 _ e3 => he _ G' H2 (u.gg.trans e1) ((e'.trans u.hh).trans e2) e3⟩
    · rw [← hl] at p
      obtain ⟨G', k1, k2, k3⟩ := lw_end p
      exact q D H' G' (fresh_back u.hh k1) (u.trans k2) k3
  · cases hx
/-- the target a pair of names -/
theorem el_lcP {vs : List Nat} {i j : Nat} {m : Option (List (α × β))} {f : α × β → Option Bool} {f2 : α × β → Option γ} (h : E tl σ G W (rL (rP R S)) m) (hw : ∀ x y, wipe (((wipe σ vs).set i (some x)).set j (some y)) vs = wipe σ vs)
    (ht : ∀ p v w G' W', Ex G G' → Ex W W' → Ex G' W' → R.r G' v p.1 → S.r G' w p.2 → ET tt (((wipe σ vs).set i (some v)).set j (some w)) W' (f p))
    (he : ∀ p v w G' W', Ex G G' → Ex W W' → Ex G' W' → R.r G' v p.1 → S.r G' w p.2 → E te (((wipe σ vs).set i (some v)).set j (some w)) G' W' T (f2 p)) :
    EL (tLc (iList K tl) (gTup K 2 (gCons (gName i) (gCons (gName j) gNil))) tt te vs) σ G W T (m >>= fun xs => lcS f f2 xs) := fun zs hz H e e' Q q => by
  obtain ⟨xs, hx, hz⟩ := bindS hz
  obtain ⟨hs, hz⟩ := lcS_ok hz
  refine h xs hx H e e' _ fun v H1 G1 u r => ?_
  obtain ⟨a, us, rfl, h2, h3⟩ := r
  refine ⟨a, rfl, ⟨us, Or.inl (Or.inl (u.gh a _ h2))⟩, fun D hD => lc_list (xs := us) (Lw G1 H1 T f f2 xs zs D) (lw_start u.gh hD hz) (fun i H' _ p => ?_) (fun k y H' hy p => ?_) fun H' p => ?_⟩
  · obtain ⟨G', _, _, _, _, p2, _⟩ := p
    exact Or.inl (Or.inl (p2.gh a _ (p2.gg a _ h2)))
  · obtain ⟨x, hx', b, v, w, rfl, k2, k3, k4⟩ := pr_get' h3 hy
    have k5 : H' b = some (.tup [v, w]) := by
      obtain ⟨G', _, _, _, _, p2, _⟩ := p
      exact p2.gh b _ (p2.gg b _ k2)
    refine ⟨b, [v, w], rfl, Or.inl (Or.inl k5), rfl, v, [w], rfl, w, [], rfl, rfl, hw v w, ?_⟩
    exact lw_turn hx' hs p (fun G' e1 e2 e3 => ht x v w G' H' (u.gg.trans e1) ((e'.trans u.hh).trans e2) e3 (R.mono e1 k3) (S.mono e1 k4)) fun G' H2 e1 e2 _ e3 => he x v w G' H2 (u.gg.trans e1) ((e'.trans u.hh).trans e2) e3 (R.mono e1 k3) (S.mono e1 k4)
  · rw [h3.length] at p
    obtain ⟨G', k1, k2, k3⟩ := lw_end p
    exact q D H' G' (fresh_back u.hh k1) (u.trans k2) k3
theorem et_yes : ET tYes σ W (some true) := fun b hb H _ Q q => by
  cases hb
  exact q H (Ex.refl _)
/-- no test: mapS -/
theorem el_map {m : Option (List α)} {f2 : α → Option γ} {te : TE} (h : EL te σ G W T (m >>= fun xs => lcS (fun _ => some true) f2 xs)) : EL te σ G W T (m >>= fun xs => mapS f2 xs) := by rw [mapS_eq]; exact h
theorem el_mapR {m : Option (Int × Unit)} {f2 : Int → Option γ} {te : TE} (h : EL te σ G W T (m >>= fun n => rngM 0 n.1 >>= fun xs => lcS (fun _ => some true) f2 xs)) : EL te σ G W T (m >>= fun n => rngM 0 n.1 >>= fun xs => mapS f2 xs) := by rw [mapS_eq]; exact h
end
end Sim

namespace Sim
open PySem L2 Evl
section
variable {K : PySem.W.Frag} {σ : L2.St} {G0 H0 G H G2 H2 W : Hp} {ls : List Addr} {cs : Cs} {l : Addr} {cp cp' : CP} {ta tb te tc : TE} {t u : TT} {α β γ ι κ : Type} {R : Rep α} {S : Rep β} {T : Rep γ} {A : AR ι} {D : Ends} {tu tv tz : TS} {g : TG}
theorem E.is {m : Option α} {x : α} (h : E te σ G W R m) (hm : m = some x) : E te σ G W R (some x) := by rw [← hm]; exact h
theorem ET.is {m : Option Bool} {x : Bool} (h : ET t σ W m) (hm : m = some x) : ET t σ W (some x) := by rw [← hm]; exact h
theorem EL.is {m : Option (List α)} {x : List α} (h : EL te σ G W R m) (hm : m = some x) : EL te σ G W R (some x) := by rw [← hm]; exact h
theorem e_andP {a b : Bool} (h1 : E ta σ G W rB (some a)) (h2 : E tb σ G W rB (some b)) : E (tAndV ta tb) σ G W rB (some (a && b)) := by
  have h := e_andV h1 h2
  cases a <;> exact h
theorem e_orP {a b : Bool} (h1 : E ta σ G W rB (some a)) (h2 : E tb σ G W rB (some b)) : E (tOrV ta tb) σ G W rB (some (a || b)) := by
  have h := e_orV h1 h2
  cases a <;> exact h
theorem et_andP {a b : Bool} (h1 : ET t σ W (some a)) (h2 : ET u σ W (some b)) : ET (tAnd t u) σ W (some (a && b)) := by
  have h := et_and h1 h2
  cases a <;> exact h
theorem et_orP {a b : Bool} (h1 : ET t σ W (some a)) (h2 : ET u σ W (some b)) : ET (tOr t u) σ W (some (a || b)) := by
  have h := et_or h1 h2
  cases a <;> exact h
/-- an option's value where it is one -/
theorem e_some {m : Option α} (h : E te σ G W R m) : E te σ G W (rO R) (m >>= fun x => some (some x)) := fun z hz H e e' Q q => by
  obtain ⟨x, hx, hz⟩ := bindS hz
  cases hz
  exact h x hx H e e' Q q
theorem e_none : E (tC .non) σ G W (rO R) (some none) := e_c rfl
theorem e_get {m : Option (Option α)} (h : E te σ G W (rO R) m) : E te σ G W R (m >>= fun x => x) := fun z hz H e e' Q q => by
  obtain ⟨x, hx, hz⟩ := bindS hz
  subst hz
  exact h _ hx H e e' Q q
/-- items of one kind -/
def EAL (n : Nat) (ta : TA) (σ : L2.St) (G W : Hp) (R : Rep α) (m : Option (List α)) : Prop :=
  ∀ xs, m = some xs → xs.length = n ∧ ∀ H, Ex G H → Ex W H → ∀ Q : List V → Hp → Prop, (∀ vs H2 G2, Up G H G2 H2 → Paired (R.r G2) vs xs → Q vs H2) → ta σ H Q
theorem EAL.mono {n : Nat} {G' W' : Hp} {ta : TA} {m : Option (List α)} (e : Ex G G') (e' : Ex W W') (h : EAL n ta σ G W R m) : EAL n ta σ G' W' R m := fun x hx => ⟨(h x hx).1, fun H e1 e2 Q q =>
  (h x hx).2 H (e.trans e1) (e'.trans e2) Q fun v H2 G2 up r => by
    obtain ⟨G3, u3, e3⟩ := up.lift e e1
    exact q v H2 G3 u3 (Paired.mapP r fun _ _ => R.mono e3)⟩
theorem eal_nil : EAL 0 tNil σ G W R (some []) := fun x hx => by
  cases hx
  exact ⟨rfl, fun H e e' Q q => q [] H G (Up.refl e) .nil⟩
theorem eal_cons {n : Nat} {tr : TA} {ma : Option α} {mr : Option (List α)} (h : E ta σ G W R ma) (hr : EAL n tr σ G W R mr) : EAL (n + 1) (tCons ta tr) σ G W R (ma >>= fun x => mr >>= fun xs => some (x :: xs)) := fun z hz => by
  obtain ⟨x, hx, hz⟩ := bindS hz
  obtain ⟨xs, hxs, hz⟩ := bindS hz
  cases hz
  refine ⟨congrArg (· + 1) (hr xs hxs).1, fun H e e' Q q => ?_⟩
  refine h x hx H e e' _ fun v H1 G1 u1 r1 => ?_
  refine ((hr.mono u1.gg (e'.trans u1.hh)) xs hxs).2 H1 u1.gh (Ex.refl _) _ fun vs H2 G2 u2 r2 => ?_
  exact q (v :: vs) H2 G2 (u1.trans u2) (.cons (R.mono u2.gg r1) r2)
theorem el_disp {n : Nat} {ta : TA} {m : Option (List α)} (h : EAL n ta σ G W R m) (hn : n < 100000 := by decide) : EL (tLst ta) σ G W R m := fun z hz H e e' Q q => by
  refine (h z hz).2 H e e' _ fun vs H1 G1 u1 r1 => ?_
  refine ⟨sz_of (by rw [r1.length, (h z hz).1]; exact Nat.le_of_lt hn), fun p hp => q p _ G1 (fresh_back u1.hh hp) (u1.trans (up_new u1.gh hp)) (wd_new u1.gh hp r1)⟩
theorem e_tupH {n : Nat} {ta : TA} {m : Option (List α)} (h : EAL n ta σ G W R m) (hn : n < 100000 := by decide) : E (tTup ta) σ G W (rT R) m := fun z hz H e e' Q q => by
  refine (h z hz).2 H e e' _ fun vs H1 G1 u1 r1 => ?_
  refine ⟨sz_of (by rw [r1.length, (h z hz).1]; exact Nat.le_of_lt hn), fun p hp => q _ _ _ (u1.trans (Up.lay u1.gh hp)) ⟨p, vs, rfl, upd_same, Paired.mapP r1 fun _ _ => R.mono (Ex.new (fresh_back u1.gh hp))⟩⟩
/-! ### cuts, tests opened -/
theorem o_cut (M : L2.St → Hp → Prop) (h : tSeq tu (fun _ => M) D σ H) (k : ∀ σ' H', M σ' H' → tz D σ' H') : Evl.tCut tu tz D σ H := ⟨M, h, k⟩
theorem o_if (h : t σ H fun b H1 => if b = true then tu { D with nx := tz D } σ H1 else tv { D with nx := tz D } σ H1) : tSeq (tIfS t tu tv) tz D σ H := h
theorem ite_b {b : Bool} {A B : Prop} (h1 : b = true → A) (h2 : b = false → B) : if b = true then A else B := by
  cases b with
  | true => exact h1 rfl
  | false => exact h2 rfl
theorem c_pf {f : ι → Option γ} {vs : List V} {i : ι} {z : γ} {Q : VK} {X : XK} (w : Wo G0 H0 ls G H cs) (hv : A.r G vs i) (hz : f i = some z)
    (k : ∀ u H2 G2, Wo G0 H0 ls G2 H2 cs → Ex G G2 → T.r G2 u z → Q u H2) : PF A T f vs H Q X := ⟨G, i, z, w.ex, hv, hz, fun u H2 G2 up r => k u H2 G2 (w.up up) up.gg r⟩
theorem c_pl {f : ι → Option (List γ)} {vs : List V} {i : ι} {z : List γ} {Q : VK} {X : XK} (w : Wo G0 H0 ls G H cs) (hv : A.r G vs i) (hz : f i = some z)
    (k : ∀ p H2 G2, H0 p = none → Wo G0 H0 ls G2 H2 ((p, cL T z) :: cs) → Ex G G2 → Q (.ref p) H2) : PL A T f vs H Q X := ⟨G, i, z, w.ex, hv, hz, fun p H2 G2 hp up w2 => k p H2 G2 (by
    cases q : H0 p with
    | none => rfl
    | some o => exact absurd hp (w.f.st p (by rw [q]; simp))) (w.newL hp up w2) up.gg⟩
theorem o_forR {ta : TA} (h : ta σ H fun vs H1 => ∃ j : Int, vs = [.int j] ∧ -(2 ^ 62) ≤ j ∧ j < 2 ^ 62 ∧ (fun (J : It) (H1 : Hp) => ∃ W : Nat → Nat → L2.St → Hp → Prop, (∃ m, W 0 m σ H1) ∧ ∀ i m σ H, W i m σ H →
      (J.stop i H ∧ tz D σ H) ∨ (J.go i H ∧ ∃ N : L2.St → Hp → Prop, (∀ σ' H', N σ' H' → ∃ m', m' < m ∧ W (i + 1) m' σ' H') ∧ ∀ x H', J.yld i H x H' → g x σ H' fun σ2 H2 => tu { D with nx := N, ct := N, bk := tz D } σ2 H2)) (Itr 0 j.toNat) H1) : tSeq (tFor (iRng1 ta) g tu) tz D σ H := h
/-- for i in range(n), n reckoned -/
theorem v_forR {n : Int} {xs : List Int} (w : Wo G0 H0 ls G H cs) (hx : rngM 0 n = some xs) (P : Nat → Hp → Hp → L2.St → Prop)
    (h0 : P 0 G H σ)
    (hs : ∀ i x σ' G' H', xs[i]? = some x → P i G' H' σ' → g (.int x) σ' H' fun σ2 H2 => tu { D with nx := fun σ' H' => ∃ G', P (i + 1) G' H' σ', ct := fun σ' H' => ∃ G', P (i + 1) G' H' σ', bk := tz D } σ2 H2)
    (hd : ∀ σ' G' H', P xs.length G' H' σ' → tz D σ' H') : ∃ j : Int, [V.int n] = [.int j] ∧ -(2 ^ 62) ≤ j ∧ j < 2 ^ 62 ∧ (fun (J : It) (H1 : Hp) => ∃ W : Nat → Nat → L2.St → Hp → Prop, (∃ m, W 0 m σ H1) ∧ ∀ i m σ H, W i m σ H →
      (J.stop i H ∧ tz D σ H) ∨ (J.go i H ∧ ∃ N : L2.St → Hp → Prop, (∀ σ' H', N σ' H' → ∃ m', m' < m ∧ W (i + 1) m' σ' H') ∧ ∀ x H', J.yld i H x H' → g x σ H' fun σ2 H2 => tu { D with nx := N, ct := N, bk := tz D } σ2 H2)) (Itr 0 j.toNat) H := by
  unfold rngM at hx
  split at hx
  · rename_i hb
    cases hx
    refine ⟨n, rfl, by omega, by omega, for_range (lo := 0) (n := n.toNat) (D := { D with nx := tz D }) (fun i σ' H' => ∃ G', P i G' H' σ') ⟨G, h0⟩ ?_ ?_⟩
    · rintro i σ' H' hi ⟨G', p⟩
      exact hs i _ σ' G' H' (rng_get (by omega)) p
    · rintro σ' H' ⟨G', p⟩
      refine hd σ' G' H' ?_
      rw [rng_len]
      have : (n - 0).toNat = n.toNat := by omega
      rw [this]; exact p
  · cases hx
end
end Sim

namespace Sim
open PySem L2 Evl
section
variable {K : PySem.W.Frag} {σ : L2.St} {G0 H0 G H G2 H2 W : Hp} {ls : List Addr} {cs : Cs} {l : Addr} {cp cp' : CP} {ta tb te tc : TE} {t u : TT} {α β γ ι κ : Type} {R : Rep α} {S : Rep β} {T : Rep γ} {A : AR ι} {D : Ends} {tu tv tz : TS} {g : TG}
theorem scO (h : R.Sc) : (rO R).Sc := fun {H H' v x} q => by
  cases x with
  | none => exact q
  | some y => exact h q
theorem cl_sc {xs : List α} (h : R.Sc) {o : HO} (q : (cL R xs).p G o) : (cL R xs).p G2 o := by
  obtain ⟨vs, e, p⟩ := q
  exact ⟨vs, e, Paired.mapP p fun _ _ r => h r⟩
theorem EL.s {m : Option (List α)} (sc : R.Sc) (h : EL te σ W W R m) : EL te σ G W R m := fun xs hx H e e' Q q => h xs hx H e' e' Q fun p H2 G2 hp u w => by
  obtain ⟨h1, o, h2, h3⟩ := w.head
  exact q p H2 G hp (Up.same e u.hh) ⟨e.trans u.hh, fun c hc => by
    rw [List.mem_singleton.mp hc]
    exact ⟨fresh_back e hp, o, h2, cl_sc sc h3⟩, List.nodup_cons.mpr ⟨List.not_mem_nil, List.nodup_nil⟩⟩
theorem e_neg {m : Option Int} (h : E te σ G W rI m) : E (tUn (L2.rU fun i => .int (-i)) te) σ G W rI (m >>= fun x => some (-x)) := fun z hz H e e' Q q => by
  obtain ⟨x, hx, hz⟩ := bindS hz
  cases hz
  exact h x hx H e e' _ fun v H1 G1 u r => ⟨x, r, q _ H1 G1 u rfl⟩
/-- the cells in another order -/
theorem Wo.perm (w : Wo G0 H0 ls G H cs) (p : List Nat) (hp : p.Nodup) (hl : ∀ i ∈ p, i < cs.length) : Wo G0 H0 ls G H (p.filterMap fun i => cs[i]?) := by
  have hm : ∀ c ∈ p.filterMap (fun i => cs[i]?), c ∈ cs := fun c hc => by
    obtain ⟨i, _, e⟩ := List.mem_filterMap.mp hc
    exact List.mem_of_getElem? e
  refine ⟨⟨w.ex, fun c hc => w.w.at_ c (hm c hc), ?_⟩, w.f, fun c hc => w.lo c (hm c hc)⟩
  clear hm
  induction p with
  | nil => exact List.nodup_nil
  | cons i p ih =>
    have hi : i < cs.length := hl i (List.mem_cons_self ..)
    rw [List.filterMap_cons, List.getElem?_eq_getElem hi]
    refine List.nodup_cons.mpr ⟨fun h => ?_, ih (List.nodup_cons.mp hp).2 fun j hj => hl j (List.mem_cons_of_mem _ hj)⟩
    obtain ⟨c, hc, e⟩ := List.mem_map.mp h
    obtain ⟨j, hj, ej⟩ := List.mem_filterMap.mp hc
    have h1 : (cs.map (·.1))[i]? = some cs[i].1 := by rw [List.getElem?_map, List.getElem?_eq_getElem hi]; rfl
    have h2 : (cs.map (·.1))[j]? = some cs[i].1 := by rw [List.getElem?_map, ej]; exact congrArg some e
    have := nodup_ix w.w.nd h1 h2
    subst this
    exact (List.nodup_cons.mp hp).1 hj
theorem Wo.sub2 {i j : Nat} {l' : Addr} (w : Wo G0 H0 ls G H cs) (h : cs[i]? = some (l, cp)) (h' : cs[j]? = some (l', cp')) (ne : i ≠ j) : Wd G H [(l, cp), (l', cp')] := ⟨w.ex, fun c hc => by
  rcases List.mem_cons.mp hc with hc | hc
  · subst hc; exact w.w.at_ _ (List.mem_of_getElem? h)
  · rw [List.mem_singleton.mp hc]; exact w.w.at_ _ (List.mem_of_getElem? h'), by
  refine List.nodup_cons.mpr ⟨fun z => ?_, List.nodup_cons.mpr ⟨List.not_mem_nil, List.nodup_nil⟩⟩
  have e : l = l' := List.mem_singleton.mp z
  have h1 : (cs.map (·.1))[i]? = some l := by rw [List.getElem?_map, h]; rfl
  have h2 : (cs.map (·.1))[j]? = some l := by rw [List.getElem?_map, h', e]; rfl
  exact ne (nodup_ix w.w.nd h1 h2)⟩
theorem x_forT {xs : List α} {tl : TE} {m : Option (List α)} (w : Wo G0 H0 ls G H cs) (h : E tl σ G H (rT R) m) (hm : m = some xs) (P : Nat → Hp → Hp → L2.St → Prop) (hP : ∀ i G' H' σ', P i G' H' σ' → Ex G' H')
    (h0 : ∀ G' H', Wo G0 H0 ls G' H' cs → Ex G G' → P 0 G' H' σ)
    (hs : ∀ G1, Ex G G1 → ∀ i x v σ' G' H', xs[i]? = some x → Ex G1 G' → P i G' H' σ' → R.r G' v x → g v σ' H' fun σ2 H2 => tu { D with nx := fun σ' H' => ∃ G', Ex G1 G' ∧ P (i + 1) G' H' σ', ct := fun σ' H' => ∃ G', Ex G1 G' ∧ P (i + 1) G' H' σ', bk := tz D } σ2 H2)
    (hd : ∀ σ' G' H', Ex G G' → P xs.length G' H' σ' → tz D σ' H') : tSeq (tFor (iTup K tl) g tu) tz D σ H :=
  h xs hm H w.ex (Ex.refl _) _ fun v H1 G1 u r => by
    obtain ⟨a, vs, rfl, h2, h3⟩ := r
    refine ⟨a, rfl, ⟨vs, Or.inl (Or.inl (u.gh a _ h2))⟩, for_tup (K := K) (a := a) (xs := vs) (fun i σ' H' => ∃ G', Ex G1 G' ∧ P i G' H' σ') ⟨G1, Ex.refl _, h0 G1 H1 (w.up u) u.gg⟩ ?_ ?_ ?_⟩
    · rintro i σ' H' _ ⟨G', e, p⟩
      exact Or.inl (Or.inl (hP _ _ _ _ p a _ (e a _ h2)))
    · rintro i y σ' H' hy ⟨G', e, p⟩
      obtain ⟨x, hx, r⟩ := pr_get' h3 hy
      exact hs G1 u.gg i x y σ' G' H' hx e p (R.mono e r)
    · rintro σ' H' ⟨G', e, p⟩
      rw [h3.length] at p
      exact hd σ' G' H' (u.gg.trans e) p
end
/-! ### the text's facts -/
structure Tx (fa : List He.Fa) (fn : List He.DefD) (K : PySem.W.Frag) (mg : Str → Option Value) : Prop where
  ex : ∃ h : Heap, K.In h ∧ h.Ns mainGlobals mg
  c : He.SaysD fa fn K
section
variable {fa : List He.Fa} {fn : List He.DefD} {K : PySem.W.Frag} {mg : Str → Option Value} {P : Program} {w : World} {base : Heap}
theorem Tx.glo (T : Tx fa fn K mg) (i : Nat) {x : Str} (h : fa[i]? = some (.glo x)) : mg x = some (.ref (He.ga K x)) := by
  obtain ⟨h', X, G⟩ := T.ex
  exact He.glo_ok X G (T.c.fact i h)
theorem Tx.free (T : Tx fa fn K mg) (i : Nat) {x : Str} (h : fa[i]? = some (.free x)) : mg x = none := by
  obtain ⟨h', X, G⟩ := T.ex
  exact He.free_ok X G (T.c.fact i h)
theorem Tx.cls (T : Tx fa fn K mg) (i : Nat) {x : Str} (h : fa[i]? = some (.cls x)) : Cls K (He.ga K x) := He.cls_ok (T.c.fact i h)
theorem Tx.noat (T : Tx fa fn K mg) (i : Nat) {x f : Str} (h : fa[i]? = some (.noat x f)) : NoAttr K (He.ga K x) f := He.noat_ok (T.c.fact i h)
theorem Tx.meth (T : Tx fa fn K mg) (i : Nat) {x m : Str} (h : fa[i]? = some (.meth x m)) : Meth K (He.ga K x) m (He.ma K (He.ga K x) m) := He.meth_ok (T.c.fact i h)
theorem Tx.mkr (T : Tx fa fn K mg) (i : Nat) {x : Str} (h : fa[i]? = some (.mkr x)) : Mk K (He.ga K x) (He.ma K (He.ga K x) "__init__") := He.mkr_ok (T.c.fact i h)
theorem Tx.def_ (T : Tx fa fn K mg) (i : Nat) {d : He.DefD} (h : fn[i]? = some d) : ∃ fd, FunD K d.name d.qual d.params d.body d.scope (d.dvs K) (d.kws K) (He.fAd K d.at_) fd := T.c.def_ i h
/-- a def by its name, with its promise -/
def Fk (P : Program) (w : World) (K : PySem.W.Frag) (mg : Str → Option Value) (base : Heap) (CX : CXT) (k : Nat) (x : Str) (ps : List Str) (sp : Sp) : Prop :=
  ∃ fd, FnOk P w K mg base CX k (He.ga K x) fd ps sp ∧ Binds K fd ps [] ∧ PySem.W.keepIn K (.ref (He.ga K x)) = true ∧ mg x = some (.ref (He.ga K x))
theorem fk_mk {CX : CXT} {k : Nat} {x qual : Str} {ps : List Str} {sp : Sp} {fd : FuncData} {params : Arguments} {body : List Stmt} {scope : Scope} (T : Tx fa fn K mg) (g : mg x = some (.ref (He.ga K x))) (F : FunD K x qual params body scope [] [] (He.ga K x) fd)
    (hb : ∀ (kV doc pm : Value) (an : Option Addr) (cdv ct : Value) (us : List Value), us.length = ps.length → bindArgs (PySem.W.fnOf x qual params body scope .none kV doc pm an cdv ct) ⟨us, []⟩ = pure (ps.zip us))
    (h : FnOk P w K mg base CX k (He.ga K x) fd ps sp) : Fk P w K mg base CX k x ps sp := ⟨fd, h, F.bindsN hb, F.kp, g⟩
end
end Sim

namespace Sim
open PySem L2 Evl
/-! ### the hook: facts, defs, and further Bools -/
abbrev AlE : Type := He.AlD × Bool
def obsE (fa : List He.Fa) (fn : List He.DefD) (ex : List (PySem.W.Frag → Bool)) (K : PySem.W.Frag) : AlE := (He.obsD fa fn K, ex.all fun e => e K)
def obsEG (n : Nat) (fa : List He.Fa) (fn : List He.DefD) (ex : List (PySem.W.Frag → Bool)) (g : Addr → Option Obj) : AlE := obsE fa fn ex (He.frG g (He.asD g n))
structure SaysE (fa : List He.Fa) (fn : List He.DefD) (ex : List (PySem.W.Frag → Bool)) (K : PySem.W.Frag) : Prop where
  d : He.SaysD fa fn K
  x : (ex.all fun e => e K) = true
def hookE (n : Nat) (fa : List He.Fa) (fn : List He.DefD) (ex : List (PySem.W.Frag → Bool)) : PySem.W.Hook where
  α := AlE
  obs := fun s => obsEG n fa fn ex s.heap.get?
  val := fun _ => (He.valD fn, true)
  says := fun _ h => ∃ K : PySem.W.Frag, K.In h ∧ SaysE fa fn ex K
  of := fun _ _ e => ⟨_, He.frG_in, congrArg (fun z : AlE => z.1) e, congrArg (fun z : AlE => z.2) e⟩
  keeps := fun _ _ _ ⟨K, hK, c⟩ k => ⟨K, PySem.W.Frag.In.keeps hK k, c⟩
theorem obsEG_eq {n : Nat} {fa : List He.Fa} {fn : List He.DefD} {ex : List (PySem.W.Frag → Bool)} {g : Addr → Option Obj} {s : Shared} (h : ∀ a, g a = s.heap.get? a) : obsEG n fa fn ex g = (hookE n fa fn ex).obs s := by
  have e : g = s.heap.get? := funext h
  rw [e] <;> rfl
structure TxE (fa : List He.Fa) (fn : List He.DefD) (es : List (PySem.W.Frag → Bool)) (K : PySem.W.Frag) (mg : Str → Option Value) : Prop extends Tx fa fn K mg where
  x : (es.all fun e => e K) = true
theorem TxE.mo {fa : List He.Fa} {fn : List He.DefD} {ex : List (PySem.W.Frag → Bool)} {K : PySem.W.Frag} {mg : Str → Option Value} (T : TxE fa fn ex K mg) (i : Nat) {e : PySem.W.Frag → Bool} (h : ex[i]? = some e) : e K = true := List.all_eq_true.mp T.x e (List.mem_of_getElem? h)
theorem TxE.con {fa : List He.Fa} {fn : List He.DefD} {ex : List (PySem.W.Frag → Bool)} {K : PySem.W.Frag} {mg : Str → Option Value} (T : TxE fa fn ex K mg) (i : Nat) {C f : Str} {v : He.Dv} (h : ex[i]? = some fun K => He.conB K C f v) (hc : PySem.W.copiedNames.contains f = false := by decide) : ∃ u, Con K (He.ga K C) f (v.v K) u := He.conB_ok (T.mo i h) hc
/-! ### objects -/
structure Pd where
  p : Hp → V → Prop
  mono : ∀ {H H' : Hp} {v : V}, Ex H H' → p H v → p H' v
def pd {α : Type} (R : Rep α) (x : α) : Pd := ⟨fun H v => R.r H v x, fun e h => R.mono e h⟩
def Fl (ns : List Str) (ps : List Pd) (H : Hp) (fs : List (Str × V)) : Prop := fs.map (·.1) = ns ∧ Paired (fun v (q : Pd) => q.p H v) (fs.map (·.2)) ps
theorem Fl.mono {ns : List Str} {ps : List Pd} {H H' : Hp} {fs : List (Str × V)} (e : Ex H H') (h : Fl ns ps H fs) : Fl ns ps H' fs := ⟨h.1, Paired.mapP h.2 fun _ q => q.mono e⟩
def rObj {α : Type} (C : Addr) (ns : List Str) (fl : α → List Pd) : Rep α := ⟨fun H v x => ∃ a dx fs, v = .ref a ∧ H a = some (.ins C dx fs) ∧ Fl ns (fl x) H fs, fun e ⟨a, dx, fs, h1, h2, h3⟩ => ⟨a, dx, fs, h1, e a _ h2, h3.mono e⟩⟩
def cI (C : Addr) (ns : List Str) (ps : List Pd) : CP := ⟨fun G o => ∃ dx fs, o = .ins C dx fs ∧ Fl ns ps G fs, fun e ⟨dx, fs, h1, h2⟩ => ⟨dx, fs, h1, h2.mono e⟩⟩
theorem look_at {ns : List Str} : ∀ {fs : List (Str × V)} {f : Str} {i : Nat} {v : V}, fs.map (·.1) = ns → (ns.findIdx? (fun x => x == f)) = some i → (fs.map (·.2))[i]? = some v → fs.lookup f = some v := by
  intro fs
  induction fs generalizing ns with
  | nil => intro f i v h1 h2 h3; simp at h3
  | cons q fs ih =>
    intro f i v h1 h2 h3
    obtain ⟨n, w⟩ := q
    subst h1
    rw [List.map_cons, List.findIdx?_cons] at h2
    rw [List.lookup_cons]
    by_cases hn : (n == f) = true
    · rw [if_pos hn] at h2
      cases h2
      have hf : (f == n) = true := by rw [beq_iff_eq] at hn ⊢; exact hn.symm
      rw [hf]
      simpa using h3
    · rw [if_neg hn] at h2
      obtain ⟨j, hj, e⟩ := Option.map_eq_some_iff.mp h2
      subst e
      have hf : (f == n) = false := by
        cases q : (f == n) with
        | false => rfl
        | true => rw [beq_iff_eq] at q; exact absurd (by rw [beq_iff_eq]; exact q.symm) hn
      rw [hf]
      exact ih rfl hj (by simpa using h3)
theorem look_no {ns : List Str} : ∀ {fs : List (Str × V)} {f : Str}, fs.map (·.1) = ns → ns.contains f = false → fs.lookup f = none := by
  intro fs
  induction fs generalizing ns with
  | nil => intro f _ _; rfl
  | cons q fs ih =>
    intro f h1 h2
    obtain ⟨n, w⟩ := q
    subst h1
    rw [List.map_cons, List.contains_cons, Bool.or_eq_false_iff] at h2
    rw [List.lookup_cons, h2.1]
    exact ih rfl h2.2
theorem putF_new {f : Str} {v : V} : ∀ {fs : List (Str × V)}, (fs.map (·.1)).contains f = false → putF f v fs = fs ++ [(f, v)]
  | [], _ => rfl
  | (n, w) :: fs, h => by
    rw [List.map_cons, List.contains_cons, Bool.or_eq_false_iff] at h
    have hn : ¬ (n = f) := fun e => by subst e; simp at h
    unfold putF
    rw [if_neg hn, putF_new h.2]; rfl
section
variable {K : PySem.W.Frag} {σ : L2.St} {G0 H0 G H G2 H2 W : Hp} {ls : List Addr} {cs : Cs} {l C : Addr} {cp cp' : CP} {ta tb te tc to : TE} {t u : TT} {α β γ ι κ : Type} {R : Rep α} {S : Rep β} {T : Rep γ} {A : AR ι} {D : Ends} {tu tv tz : TS} {g : TG} {ns : List Str} {fl : α → List Pd}
theorem nnO_ : (rObj C ns fl).NN := fun ⟨a, _, _, h, _⟩ => by rw [h]; simp
/-- o.f -/
theorem e_fld {m : Option α} {f : Str} (i : Nat) (p : α → β) (h : E to σ G W (rObj C ns fl) m) (hc : Cls K C) (hn : NoAttr K C f) (hi : ns.findIdx? (fun x => x == f) = some i) (hp : ∀ x, (fl x)[i]? = some (pd S (p x))) : E (tFld K to f) σ G W S (m >>= fun x => some (p x)) := fun z hz H e e' Q q => by
  obtain ⟨x, hx, hz⟩ := bindS hz
  cases hz
  refine h x hx H e e' _ fun v H1 G1 u r => ?_
  obtain ⟨a, dx, fs, rfl, h2, h3⟩ := r
  obtain ⟨w, hw, r2⟩ := pr_get h3.2 (hp x)
  exact ⟨a, C, dx, fs, w, rfl, u.gh a _ h2, hc, hn, look_at h3.1 hi hw, q w H1 G1 u r2⟩
/-- o.NAME, of the class -/
theorem e_con {m : Option α} {f : Str} {v : V} {uu : Value} {x : β} (h : E to σ G W (rObj C ns fl) m) (hc : Cls K C) (hk : Con K C f v uu) (hi : ns.contains f = false) (hv : ∀ H, S.r H v x) : E (tCon K to f) σ G W S (m >>= fun _ => some x) := fun z hz H e e' Q q => by
  obtain ⟨y, hy, hz⟩ := bindS hz
  cases hz
  refine h y hy H e e' _ fun v H1 G1 u r => ?_
  obtain ⟨a, dx, fs, rfl, h2, h3⟩ := r
  exact ⟨a, C, dx, fs, _, uu, rfl, u.gh a _ h2, hc, hk, look_no h3.1 hi, q _ H1 G1 u (hv G1)⟩
/-- o.m(..) -/
theorem e_meth {m : Option α} {mi : Option ι} {me : Str} {f : α × ι → Option γ} {ta : TA} {X : XK} (h : E to σ G W (rObj C ns fl) m) (ha : EA ta σ G W A mi) (hi : ns.contains me = false) : E (tMeth C me (PF (aC (rObj C ns fl) A) T f) [] X to ta) σ G W T (m >>= fun o => mi >>= fun i => f (o, i)) := fun z hz H e e' Q q => by
  obtain ⟨x, hx, hz⟩ := bindS hz
  obtain ⟨y, hy, hz⟩ := bindS hz
  refine h x hx H e e' _ fun v H1 G1 u r => ?_
  obtain ⟨a, dx, fs, rfl, h2, h3⟩ := r
  refine ⟨a, dx, fs, rfl, u.gh a _ h2, look_no h3.1 hi, ?_⟩
  refine (ha.mono u.gg (e'.trans u.hh)) y hy H1 u.gh (Ex.refl _) _ fun vs H3 G3 u3 r3 => ?_
  rw [List.append_nil]
  exact ⟨G3, (x, y), z, u3.gh, ⟨.ref a, vs, rfl, ⟨a, dx, fs, rfl, u3.gg a _ h2, h3.mono u3.gg⟩, r3⟩, hz, fun v H4 G4 u4 r4 => q v H4 G4 ((u.trans u3).trans u4) r4⟩
theorem el_meth {m : Option α} {mi : Option ι} {me : Str} {f : α × ι → Option (List γ)} {ta : TA} {X : XK} (h : E to σ G W (rObj C ns fl) m) (ha : EA ta σ G W A mi) (hi : ns.contains me = false) : EL (tMeth C me (PL (aC (rObj C ns fl) A) T f) [] X to ta) σ G W T (m >>= fun o => mi >>= fun i => f (o, i)) := fun z hz H e e' Q q => by
  obtain ⟨x, hx, hz⟩ := bindS hz
  obtain ⟨y, hy, hz⟩ := bindS hz
  refine h x hx H e e' _ fun v H1 G1 u r => ?_
  obtain ⟨a, dx, fs, rfl, h2, h3⟩ := r
  refine ⟨a, dx, fs, rfl, u.gh a _ h2, look_no h3.1 hi, ?_⟩
  refine (ha.mono u.gg (e'.trans u.hh)) y hy H1 u.gh (Ex.refl _) _ fun vs H3 G3 u3 r3 => ?_
  rw [List.append_nil]
  exact ⟨G3, (x, y), z, u3.gh, ⟨.ref a, vs, rfl, ⟨a, dx, fs, rfl, u3.gg a _ h2, h3.mono u3.gg⟩, r3⟩, hz, fun p H4 G4 hp u4 r4 => q p H4 G4 (fresh_back (u.hh.trans u3.hh) hp) ((u.trans u3).trans u4) r4⟩
/-- the promise of an __init__: fields of the new object -/
def PI {ι α : Type} (C : Addr) (A : AR ι) (ns : List Str) (fl : α → List Pd) (f : ι → Option α) : Sp := fun vs H Q _ => ∃ G x ws i o, vs = .ref x :: ws ∧ Wd G H [(x, cI C [] [])] ∧ A.r G ws i ∧ f i = some o ∧
  ∀ H2 G2, Fr G H G2 H2 [x] → Wd G2 H2 [(x, cI C ns (fl o))] → Q .non H2
theorem ob_freeze {p : Addr} {ps : List Pd} (w : Wd G H [(p, cI C ns ps)]) : ∃ G2, Ex G G2 ∧ Ex G2 H ∧ (∀ a, a ≠ p → G a = none → G2 a = none) ∧ ∃ dx fs, G2 p = some (.ins C dx fs) ∧ Fl ns ps G2 fs := by
  obtain ⟨h1, o, h2, dx, fs, rfl, h3⟩ := w.head
  refine ⟨upd G p (.ins C dx fs), Ex.new h1, fun a u' e => ?_, fun a ne h => by rw [upd_ne ne]; exact h, dx, fs, upd_same, h3.mono (Ex.new h1)⟩
  by_cases q : a = p
  · subst q; rw [upd_same] at e; cases e; exact h2
  · rw [upd_ne q] at e; exact w.ex a u' e
theorem new_ins {x dx : Addr} (e : Ex G H) (nx : H x = none) (ndx : H dx = none) (ne : dx ≠ x) : Wd G (upd (upd H dx (.own x)) x (.ins C dx [])) [(x, cI C [] [])] := by
  have nx' : (upd H dx (.own x)) x = none := by rw [upd_ne ne.symm]; exact nx
  have e1 : Ex G (upd H dx (.own x)) := e.trans (Ex.new ndx)
  exact (Wd.nil e1).new nx' ⟨dx, [], rfl, rfl, .nil⟩
/-- C(..) -/
theorem e_make {f : ι → Option α} {ta : TA} {mi : Option ι} {X : XK} (ha : EA ta σ G W A mi) : E (tMake C (PI C A ns fl f) [] X ta) σ G W (rObj C ns fl) (mi >>= f) := fun z hz H e e' Q q => by
  obtain ⟨i, hi, hz⟩ := bindS hz
  refine ha i hi H e e' _ fun vs H1 G1 u1 r1 => ?_
  intro x dx nx ndx ne
  rw [List.append_nil]
  have w1 : Wd G1 (upd (upd H1 dx (.own x)) x (.ins C dx [])) [(x, cI C [] [])] := new_ins u1.gh nx ndx ne
  refine ⟨G1, x, vs, i, z, rfl, w1, r1, hz, fun H2 G2 fr w2 => ⟨rfl, ?_⟩⟩
  obtain ⟨G3, k1, k2, k3, dx', fs, k4, k5⟩ := ob_freeze w2
  have hh : Ex H1 H2 := fun a o h => by
    have na : a ≠ x := ne_of_none h nx
    have nd : a ≠ dx := ne_of_none h ndx
    exact fr.fr a o (by rw [upd_ne na, upd_ne nd]; exact h) fun z => na (List.mem_singleton.mp z)
  have up : Up G1 H1 G3 H2 := ⟨fr.gg.trans k1, k2, hh, fun a h1 h2 => by
    have na : a ≠ x := fun z => by subst z; exact h1 nx
    have nd : a ≠ dx := fun z => by subst z; exact h1 ndx
    exact k3 a na (fr.nw a (by rw [upd_ne na, upd_ne nd]; exact h1) h2)⟩
  exact q _ H2 G3 (u1.trans up) ⟨x, dx', fs, rfl, k4, k5⟩
/-- self.f = e, a new field -/
theorem x_fldN {i j : Nat} {f : Str} {m : Option β} {x : β} {ps : List Pd} (w : Wo G0 H0 ls G H cs) (hc : cs[j]? = some (l, cI C ns ps)) (hi : σ[i]? = some (some (.ref l))) (h : E te σ G H S m) (hm : m = some x) (hC : Cls K C) (hn : NoAttr K C f) (hz : ns.contains f = false) (hs : ns.length < 1000)
    (k : ∀ H2 G2, Wo G0 H0 ls G2 H2 (cs.set j (l, cI C (ns ++ [f]) (ps ++ [pd S x]))) → Ex G G2 → tz D σ H2) : tSeq (sFld K (tVar i) te f) tz D σ H :=
  h x hm H w.ex (Ex.refl _) (fun y H1 => tVar i σ H1 fun x H2 => ∃ a C dx fs, x = .ref a ∧ H2 a = some (.ins C dx fs) ∧ Cls K C ∧ NoAttr K C f ∧ fs.length < 1000 ∧ tz D σ (upd H2 a (.ins C dx (putF f y fs)))) fun v H3 G3 u r => by
    have w3 := w.up u
    obtain ⟨_, o3, k2, dx, fs, rfl, k3⟩ := w3.w.getAt hc
    refine ⟨.ref l, hi, l, C, dx, fs, rfl, k2, hC, hn, by rw [← List.length_map (f := (·.1)), k3.1]; exact hs, ?_⟩
    rw [putF_new (by rw [k3.1]; exact hz)]
    refine k _ _ (w3.writeAt hc ⟨dx, _, rfl, ?_, ?_⟩) u.gg
    · rw [List.map_append, k3.1]; rfl
    · rw [List.map_append]; exact pr_app k3.2 (.cons r .nil)
theorem o_try {tb : TS} (h : tb { D with nx := tz D } σ H) : tSeq tb tz D σ H := h
theorem x_call {m : Option α} {x : α} (w : Wo G0 H0 ls G H cs) (h : E te σ G H R m) (hm : m = some x) (k : ∀ H2, Wo G0 H0 ls G H2 cs → tz D σ H2) : tSeq (tDrop te) tz D σ H :=
  h x hm H w.ex (Ex.refl _) (fun _ H1 => tz D σ H1) fun v H2 G2 u r => k H2 (w.sc u.hh)
/-! ### isinstance, the kind known -/
def KTy (R : Rep α) (n : String) : Prop := ∀ {K : PySem.W.Frag} {H : Hp} {v : V} {x : α}, R.r H v x → TyX K H v (.type n)
theorem ktI : KTy rI "int" := fun h => by rw [show _ = V.int _ from h]; exact .base (.int _)
theorem ktB : KTy rB "bool" := fun h => by rw [show _ = V.bl _ from h]; exact .base (.bl _)
theorem ktS : KTy rS "str" := fun h => by rw [show _ = V.str _ from h]; exact .base (.str _)
theorem ktL : KTy (rL R) "list" := fun ⟨a, vs, h, h2, _⟩ => by rw [h]; exact .base (.lst h2)
theorem ktT : KTy (rT R) "tuple" := fun ⟨a, vs, h, h2, _⟩ => by rw [h]; exact .base (.tup h2)
theorem ktP : KTy (rP R S) "tuple" := fun ⟨a, _, _, h, h2, _⟩ => by rw [h]; exact .base (.tup h2)
abbrev rIsiE (K : PySem.W.Frag) : List V → Hp → VK → Prop := rIsi K
theorem e_isi {m : Option α} {n c : String} {b : Bool} (h : E te σ G W R m) (hk : KTy R n) (hb : kitB n c = some b) : E (tCB (rIsi K) (tCons te (tCons (tC (.ty c)) tNil))) σ G W rB (m >>= fun _ => some b) := fun z hz H e e' Q q => by
  obtain ⟨x, hx, hz⟩ := bindS hz
  cases hz
  refine h x hx H e e' _ fun v H1 G1 u r => ?_
  exact ⟨v, .ty c, .type n, .type c, b, rfl, .ty c, hk (R.mono u.gh r), kit_ty hb, q _ H1 G1 u rfl⟩
/-! ### == of data -/
def rEqP (K : PySem.W.Frag) : R2 := fun x y H Q => ∃ d e, Dp K H x d ∧ Dp K H y e ∧ (d.plain = true ∧ d.depth ≤ 64) ∧ (e.plain = true ∧ e.depth ≤ 64) ∧ Q (.bl (PyData.eqv d e)) H
def rNeP (K : PySem.W.Frag) : R2 := fun x y H Q => ∃ d e, Dp K H x d ∧ Dp K H y e ∧ (d.plain = true ∧ d.depth ≤ 64) ∧ (e.plain = true ∧ e.depth ≤ 64) ∧ Q (.bl (!PyData.eqv d e)) H
theorem op_eqP {X : Cx} (hu : X.A.units + 64 < cLine) : OpR X (compareOp .Eq) (rEqP X.K) := by
  intro pins s σ H x y v u Q I rx ry h
  obtain ⟨d, e, hd, he, sd, se, q⟩ := h
  obtain ⟨as, r1⟩ := Dp.reads I d x v hd rx
  obtain ⟨bs, r2⟩ := Dp.reads I e y u he ry
  exact SeqAt.eq_plain r1 r2 sd.1 se.1 (by have := sd.2; omega) ⟨.bl _, H, I, rfl, q⟩
theorem op_neP {X : Cx} (hu : X.A.units + 64 < cLine) : OpR X (compareOp .NotEq) (rNeP X.K) := by
  intro pins s σ H x y v u Q I rx ry h
  obtain ⟨d, e, hd, he, sd, se, q⟩ := h
  obtain ⟨as, r1⟩ := Dp.reads I d x v hd rx
  obtain ⟨bs, r2⟩ := Dp.reads I e y u he ry
  exact SeqAt.ne_plain r1 r2 sd.1 se.1 (by have := sd.2; omega) ⟨.bl _, H, I, rfl, q⟩
structure Dt (R : Rep α) (d : α → PyData) (n : Nat) : Prop where
  dp : ∀ {K : PySem.W.Frag} {H : Hp} {v : V} {x : α}, R.r H v x → Dp K H v (d x)
  lay : ∀ x, (d x).plain = true
  dep : ∀ x, (d x).depth ≤ n
  eq : ∀ x y, PyData.eqv (d x) (d y) = true ↔ x = y
theorem dtI : Dt rI PyData.int 0 := ⟨fun h => by rw [show _ = V.int _ from h]; exact .int _, fun _ => rfl, fun _ => Nat.le_refl _, fun x y => by simp [PyData.eqv]⟩
theorem dtB : Dt rB PyData.bool 0 := ⟨fun h => by rw [show _ = V.bl _ from h]; exact .bl _, fun _ => rfl, fun _ => Nat.le_refl _, fun x y => by simp [PyData.eqv]⟩
theorem eqvD {d : α → PyData} {n : Nat} [DecidableEq α] (h : Dt R d n) (x y : α) : PyData.eqv (d x) (d y) = decide (x = y) := by
  by_cases e : x = y
  · rw [decide_eq_true e]; exact (h.eq x y).mpr e
  · rw [decide_eq_false e]
    cases q : PyData.eqv (d x) (d y) with
    | false => rfl
    | true => exact absurd ((h.eq x y).mp q) e
theorem rr_eqD {d : α → PyData} {n : Nat} [DecidableEq α] (h : Dt R d n) (hn : n ≤ 64) : RR (rEqP K) R R rB (fun x y => some (decide (x = y))) := fun v w x y z H G hv hw hz e Q q => by
  cases hz
  exact ⟨d x, d y, h.dp (R.mono e hv), h.dp (R.mono e hw), ⟨h.lay x, Nat.le_trans (h.dep x) hn⟩, ⟨h.lay y, Nat.le_trans (h.dep y) hn⟩, q _ H G (Up.refl e) (congrArg V.bl (eqvD h x y))⟩
theorem rr_neD {d : α → PyData} {n : Nat} [DecidableEq α] (h : Dt R d n) (hn : n ≤ 64) : RR (rNeP K) R R rB (fun x y => some (!decide (x = y))) := fun v w x y z H G hv hw hz e Q q => by
  cases hz
  exact ⟨d x, d y, h.dp (R.mono e hv), h.dp (R.mono e hw), ⟨h.lay x, Nat.le_trans (h.dep x) hn⟩, ⟨h.lay y, Nat.le_trans (h.dep y) hn⟩, q _ H G (Up.refl e) (congrArg (fun b => V.bl (!b)) (eqvD h x y))⟩
end
end Sim

namespace Sim
open PySem L2 Evl
section
variable {K : PySem.W.Frag} {σ : L2.St} {G0 H0 G H G2 H2 W : Hp} {ls : List Addr} {cs : Cs} {l C : Addr} {cp cp' : CP} {ta tb te tc to : TE} {t u : TT} {α β γ ι κ : Type} {R : Rep α} {S : Rep β} {T : Rep γ} {A : AR ι} {D : Ends} {tu tv tz : TS} {g : TG} {ns : List Str} {fl : α → List Pd}
/-! ### a list lent to a def that only reads it -/
/-- at l, its items standing in the data heap, it itself not -/
structure Lent (G W : Hp) (l : Addr) (B : Rep κ) (ys : List κ) : Prop where
  n : G l = none
  at_ : ∃ vs, W l = some (.lst vs) ∧ Paired (B.r G) vs ys
def PB (A : AR ι) (ad : ι → Addr) (B : Rep κ) (R : Rep α) (f : List κ → ι → Option α) : Sp := fun vs H Q _ => ∃ G i ys x, Ex G H ∧ A.r G vs i ∧ Lent G H (ad i) B ys ∧ f ys i = some x ∧ ∀ v H2 G2, Up G H G2 H2 → R.r G2 v x → Q v H2
def PIB (C : Addr) (A : AR ι) (ad : ι → Addr) (B : Rep κ) (ns : List Str) (fl : α → List Pd) (f : List κ → ι → Option α) : Sp := fun vs H Q _ => ∃ G x ws i ys o, vs = .ref x :: ws ∧ Wd G H [(x, cI C [] [])] ∧ A.r G ws i ∧ Lent G H (ad i) B ys ∧ f ys i = some o ∧
  ∀ H2 G2, Fr G H G2 H2 [x] → Wd G2 H2 [(x, cI C ns (fl o))] → Q .non H2
theorem Wo.lent {i : Nat} {B : Rep κ} {ys : List κ} (w : Wo G0 H0 ls G H cs) (h : cs[i]? = some (l, cL B ys)) : Lent G H l B ys := by
  obtain ⟨h1, o, h2, vs, rfl, h3⟩ := w.w.getAt h
  exact ⟨h1, vs, h2, h3⟩
/-- still lent, as the def goes on -/
theorem Wo.lentOf {B : Rep κ} {ys : List κ} (w : Wo G0 H0 ls G H cs) (L : Lent G0 H0 l B ys) (h : l ∉ ls) : Lent G H l B ys := by
  obtain ⟨vs, h2, h3⟩ := L.at_
  exact ⟨w.f.nw _ (by rw [h2]; simp) L.n, vs, w.f.fr _ _ h2 h, Paired.mapP h3 fun _ _ => B.mono w.f.gg⟩
theorem Lent.up {B : Rep κ} {ys : List κ} {G1 H1 H : Hp} (L : Lent G W l B ys) (e' : Ex W H) (u : Up G H G1 H1) : Lent G1 H1 l B ys := by
  obtain ⟨vs, h2, h3⟩ := L.at_
  exact ⟨u.nw _ (by rw [e' _ _ h2]; simp) L.n, vs, u.hh _ _ (e' _ _ h2), Paired.mapP h3 fun _ _ => B.mono u.gg⟩
theorem Lent.rl {B : Rep κ} {ys : List κ} (L : Lent G W l B ys) (e : Ex G W) : (rL B).r W (.ref l) ys := by
  obtain ⟨vs, h2, h3⟩ := L.at_
  exact ⟨l, vs, rfl, h2, Paired.mapP h3 fun _ _ => B.mono e⟩
theorem Lent.ne {B : Rep κ} {ys : List κ} {x : Addr} {ps : List Pd} (L : Lent G H l B ys) (w : Wd G H [(x, cI C ns ps)]) : l ∉ [x] := fun z => by
  obtain ⟨vs, h2, _⟩ := L.at_
  obtain ⟨_, o, k2, dx, fs, rfl, _⟩ := w.head
  rw [List.mem_singleton.mp z, k2] at h2
  cases h2
theorem x_forN {i : Nat} {xs : List α} (w : Wo G0 H0 ls G H cs) (L : Lent G0 H0 l R xs) (hl : l ∉ ls) (hi : σ[i]? = some (some (.ref l))) (P : Nat → Hp → Hp → L2.St → Prop) (hP : ∀ i G' H' σ', P i G' H' σ' → ∃ cs', Wo G0 H0 ls G' H' cs')
    (h0 : P 0 G H σ)
    (hs : ∀ i x v σ' G' H', xs[i]? = some x → P i G' H' σ' → R.r G' v x → g v σ' H' fun σ2 H2 => tu { D with nx := fun σ' H' => ∃ G', P (i + 1) G' H' σ', ct := fun σ' H' => ∃ G', P (i + 1) G' H' σ', bk := tz D } σ2 H2)
    (hd : ∀ σ' G' H', P xs.length G' H' σ' → tz D σ' H') : tSeq (tFor (iList K (tVar i)) g tu) tz D σ H := by
  obtain ⟨vs, h2, h3⟩ := L.at_
  refine ⟨.ref l, hi, l, rfl, ⟨vs, Or.inl (Or.inl (w.f.fr _ _ h2 hl))⟩, for_list (K := K) (a := l) (xs := vs) (D := { D with nx := tz D }) (fun i σ' H' => ∃ G', P i G' H' σ') ⟨G, h0⟩ ?_ ?_ ?_⟩
  · rintro i σ' H' _ ⟨G', p⟩
    obtain ⟨cs', w'⟩ := hP _ _ _ _ p
    exact Or.inl (Or.inl (w'.f.fr _ _ h2 hl))
  · rintro i y σ' H' hy ⟨G', p⟩
    obtain ⟨x, hx, r⟩ := pr_get' h3 hy
    obtain ⟨cs', w'⟩ := hP _ _ _ _ p
    exact hs i x y σ' G' H' hx p (R.mono w'.f.gg r)
  · rintro σ' H' ⟨G', p⟩
    rw [h3.length] at p
    exact hd σ' G' H' p
/-- f(.., cell, ..), the cell only read -/
theorem e_callB {B : Rep κ} {ad : ι → Addr} {f : List κ → ι → Option γ} {ys : List κ} {ta : TA} {mi : Option ι} {X : XK} (ha : EA ta σ G W A mi) (L : Lent G W l B ys) (hl : ∀ i, mi = some i → ad i = l) : E (tCall (PB A ad B T f) [] X ta) σ G W T (mi >>= fun i => f ys i) := fun z hz H e e' Q q => by
  obtain ⟨i, hi, hz⟩ := bindS hz
  refine ha i hi H e e' _ fun vs H1 G1 u1 r1 => ?_
  rw [List.append_nil]
  have := hl i hi
  subst this
  exact ⟨G1, i, ys, z, u1.gh, r1, L.up e' u1, hz, fun v H2 G2 u2 r => q v H2 G2 (u1.trans u2) r⟩
theorem e_makeB {B : Rep κ} {ad : ι → Addr} {f : List κ → ι → Option α} {ys : List κ} {ta : TA} {mi : Option ι} {X : XK} (ha : EA ta σ G W A mi) (L : Lent G W l B ys) (hl : ∀ i, mi = some i → ad i = l) : E (tMake C (PIB C A ad B ns fl f) [] X ta) σ G W (rObj C ns fl) (mi >>= fun i => f ys i) := fun z hz H e e' Q q => by
  obtain ⟨i, hi, hz⟩ := bindS hz
  refine ha i hi H e e' _ fun vs H1 G1 u1 r1 => ?_
  have := hl i hi
  subst this
  intro x dx nx ndx ne
  rw [List.append_nil]
  have w1 : Wd G1 (upd (upd H1 dx (.own x)) x (.ins C dx [])) [(x, cI C [] [])] := new_ins u1.gh nx ndx ne
  have L1 := L.up e' u1
  have L2 : Lent G1 (upd (upd H1 dx (.own x)) x (.ins C dx [])) (ad i) B ys := by
    obtain ⟨vs', h2, h3⟩ := L1.at_
    exact ⟨L1.n, vs', by rw [upd_ne (ne_of_none h2 nx), upd_ne (ne_of_none h2 ndx)]; exact h2, h3⟩
  refine ⟨G1, x, vs, i, ys, z, rfl, w1, r1, L2, hz, fun H2 G2 fr w2 => ⟨rfl, ?_⟩⟩
  obtain ⟨G3, k1, k2, k3, dx', fs, k4, k5⟩ := ob_freeze w2
  have hh : Ex H1 H2 := fun a o h => by
    have na : a ≠ x := ne_of_none h nx
    have nd : a ≠ dx := ne_of_none h ndx
    exact fr.fr a o (by rw [upd_ne na, upd_ne nd]; exact h) fun z => na (List.mem_singleton.mp z)
  have up : Up G1 H1 G3 H2 := ⟨fr.gg.trans k1, k2, hh, fun a h1 h2 => by
    have na : a ≠ x := fun z => by subst z; exact h1 nx
    have nd : a ≠ dx := fun z => by subst z; exact h1 ndx
    exact k3 a na (fr.nw a (by rw [upd_ne na, upd_ne nd]; exact h1) h2)⟩
  exact q _ H2 G3 (u1.trans up) ⟨x, dx', fs, rfl, k4, k5⟩
end
/-! ### a method by its name, with its promise -/
def Fm (P : Program) (w : World) (K : PySem.W.Frag) (mg : Str → Option Value) (base : Heap) (CX : CXT) (k : Nat) (c m : Str) (ps : List Str) (sp : Sp) : Prop :=
  ∃ fd, FnOk P w K mg base CX k (He.ma K (He.ga K c) m) fd ps sp ∧ Binds K fd ps []
theorem fm_mk {K : PySem.W.Frag} {mg : Str → Option Value} {P : Program} {w : World} {base : Heap} {CX : CXT} {k : Nat} {c m x qual : Str} {ps : List Str} {sp : Sp} {fd : FuncData} {params : Arguments} {body : List Stmt} {scope : Scope} (F : FunD K x qual params body scope [] [] (He.ma K (He.ga K c) m) fd)
    (hb : ∀ (kV doc pm : Value) (an : Option Addr) (cdv ct : Value) (us : List Value), us.length = ps.length → bindArgs (PySem.W.fnOf x qual params body scope .none kV doc pm an cdv ct) ⟨us, []⟩ = pure (ps.zip us))
    (h : FnOk P w K mg base CX k (He.ma K (He.ga K c) m) fd ps sp) : Fm P w K mg base CX k c m ps sp := ⟨fd, h, F.bindsN hb⟩
/-! ### data that is compared -/
section
variable {α β : Type} {R : Rep α} {S : Rep β}
theorem pr_dp {d : α → PyData} {n : Nat} (h : Dt R d n) {K : PySem.W.Frag} {H : Hp} : ∀ {vs : List V} {xs : List α}, Paired (R.r H) vs xs → DpAll K H vs (xs.map d)
  | _, _, .nil => .nil
  | _, _, .cons r t => .cons (h.dp r) (pr_dp h t)
theorem layAll {d : α → PyData} {n : Nat} (h : Dt R d n) : ∀ xs : List α, PyData.plainAll (xs.map d) = true
  | [] => rfl
  | x :: xs => Bool.and_eq_true_iff.mpr ⟨h.lay x, layAll h xs⟩
theorem depAll {d : α → PyData} {n : Nat} (h : Dt R d n) : ∀ xs : List α, PyData.depthAll (xs.map d) ≤ n
  | [] => Nat.zero_le _
  | x :: xs => Nat.max_le.mpr ⟨h.dep x, depAll h xs⟩
theorem eqAll {d : α → PyData} {n : Nat} (h : Dt R d n) : ∀ xs ys : List α, PyData.eqvAll (xs.map d) (ys.map d) = true ↔ xs = ys
  | [], [] => by simp [PyData.eqvAll]
  | x :: xs, y :: ys => by
    simp only [List.map_cons, PyData.eqvAll, Bool.and_eq_true, h.eq, eqAll h xs ys, List.cons.injEq]
  | [], y :: ys => by simp [PyData.eqvAll]
  | x :: xs, [] => by simp [PyData.eqvAll]
theorem dtL {d : α → PyData} {n : Nat} (h : Dt R d n) : Dt (rL R) (fun xs => PyData.list (xs.map d)) (n + 1) :=
  ⟨fun ⟨a, vs, e, h2, h3⟩ => by rw [e]; exact .lst (Or.inl (Or.inl h2)) (pr_dp h h3), fun xs => layAll h xs, fun xs => Nat.succ_le_succ (depAll h xs), fun xs ys => by simp only [PyData.eqv]; exact eqAll h xs ys⟩
theorem dtT {d : α → PyData} {n : Nat} (h : Dt R d n) : Dt (rT R) (fun xs => PyData.tuple (xs.map d)) (n + 1) :=
  ⟨fun ⟨a, vs, e, h2, h3⟩ => by rw [e]; exact .tup (Or.inl (Or.inl h2)) (pr_dp h h3), fun xs => layAll h xs, fun xs => Nat.succ_le_succ (depAll h xs), fun xs ys => by simp only [PyData.eqv]; exact eqAll h xs ys⟩
theorem dtP {d : α → PyData} {f : β → PyData} {n k : Nat} (h : Dt R d n) (h' : Dt S f k) : Dt (rP R S) (fun p => PyData.tuple [d p.1, f p.2]) (max n k + 1) :=
  ⟨fun ⟨a, x, y, e, h2, h3, h4⟩ => by rw [e]; exact .tup (Or.inl (Or.inl h2)) (.cons (h.dp h3) (.cons (h'.dp h4) .nil)), fun p => by
    show (PyData.plain _ && (PyData.plain _ && true)) = true
    rw [h.lay, h'.lay]; rfl, fun p => by
    show max (PyData.depth _) (max (PyData.depth _) 0) + 1 ≤ _
    have := h.dep p.1; have := h'.dep p.2; omega, fun p q => by
    simp only [PyData.eqv, PyData.eqvAll, Bool.and_eq_true, h.eq, h'.eq, and_true]
    exact ⟨fun ⟨a, b⟩ => Prod.ext a b, fun e => by subst e; exact ⟨rfl, rfl⟩⟩⟩
end
end Sim
namespace Sim
open PySem L2 Evl
section
variable {K : PySem.W.Frag} {σ : L2.St} {G0 H0 G H G2 H2 W : Hp} {ls : List Addr} {cs : Cs} {l C : Addr} {te : TE} {α β : Type} {R : Rep α} {S : Rep β} {ns : List Str}
/-- the script -/
def rScr (K : PySem.W.Frag) : Rep (List Int) := ⟨fun H v xs => ∃ a, v = .ref a ∧ SqL K H a (xs.map V.int), fun e ⟨a, h1, h2⟩ => ⟨a, h1, ex_l e h2⟩⟩
theorem rr_ixScr : RR (rIxL K) (rScr K) rI rI (fun xs i => atI xs i) := fun v w xs i z H G hv hw hz e Q q => by
  obtain ⟨a, rfl, h2⟩ := hv
  cases hw
  have hz' : (ixN xs.length i).bind (fun j => xs[j]?) = some z := hz
  cases hj : ixN xs.length i with
  | none => rw [hj] at hz'; cases hz'
  | some j =>
    rw [hj] at hz'
    have hz2 : xs[j]? = some z := hz'
    refine ⟨a, _, i, .int z, rfl, rfl, ex_l e h2, ?_, q _ H G (Up.refl e) rfl⟩
    show (ixN (xs.map V.int).length i).bind (fun j => (xs.map V.int)[j]?) = some (.int z)
    rw [List.length_map, hj]
    show (xs.map V.int)[j]? = _
    rw [List.getElem?_map, hz2]; rfl
theorem rc_lenScr : RC (rLn K) (aC (rScr K) aN) rI (fun i => some (i.1.length : Int)) := fun vs i z H G hv hz e Q q => by
  cases hz
  obtain ⟨v, ws, rfl, ⟨a, rfl, h2⟩, rfl⟩ := hv
  refine ⟨a, _, rfl, Or.inl (ex_l e h2), q _ H G (Up.refl e) ?_⟩
  show V.int _ = V.int _
  rw [List.length_map]
def powM (a b : Int) : Option Int := if 0 ≤ b ∧ b ≤ 1000000 ∧ a.natAbs < 2 ^ 64 then some (a ^ b.toNat) else none
theorem rr_pow : RR (L2.rI CPow fun i j => .int (i ^ j.toNat)) rI rI rI powM := rr_I fun i j z h => by
  unfold powM at h
  split at h
  · rename_i hc; cases h; exact ⟨hc, fun _ => rfl⟩
  · cases h
/-- self.NAME while self is being made -/
theorem e_conC {G' : Hp} {i j : Nat} {f : Str} {v : V} {uu : Value} {x : β} {ps : List Pd} (w : Wo G0 H0 ls G H cs) (hc : cs[j]? = some (l, cI C ns ps)) (hi : σ[i]? = some (some (.ref l))) (hC : Cls K C) (hk : Con K C f v uu) (hz : ns.contains f = false) (hv : ∀ H, S.r H v x) : E (tCon K (tVar i) f) σ G' H S (some x) := fun y hy H' e e' Q q => by
  cases hy
  obtain ⟨_, o, k2, dx, fs, rfl, k3⟩ := w.w.getAt hc
  exact ⟨.ref l, hi, l, C, dx, fs, v, uu, rfl, e' _ _ k2, hC, hk, look_no k3.1 hz, q _ H' G' (Up.refl e) (hv G')⟩
theorem el_listRg {m : Option Int} (h : E te σ G W rI m) : EL (tLstRg (tRg1 te)) σ G W rI (m >>= fun n => rngM 0 n) := fun z hz H e e' Q q => by
  obtain ⟨n, hn, hz⟩ := bindS hz
  refine h n hn H e e' _ fun v H1 G1 u r => ?_
  unfold rngM at hz
  split at hz
  · rename_i hb
    cases hz
    refine ⟨n, r, ⟨by omega, by omega, by omega, by omega, by omega⟩, fun p hp => q p _ G1 (fresh_back u.hh hp) (u.trans (up_new u.gh hp)) (wd_new u.gh hp ?_)⟩
    have : rgV 0 n = (rng 0 n).map V.int := by unfold rgV rng; rw [List.map_map]; rfl
    rw [this]
    exact ints_pr _
  · cases hz
end
end Sim

set_option maxHeartbeats 4000000
/-! own exceptions: an __init__ whose first statement is super().__init__(text) -/
namespace Sim
open PySem PySem.Spec PyProof.Rows L2 PySem.W PySem.Calls NdefX
/-- what the written part says of such an __init__ -/
structure SupC (P : Program) (K : Frag) (mg : Str → Option Value) (C f : Addr) (fd : FuncData) (F : NF) (ps : List Str) : Prop where
  lk : ∃ oc od osl kV doc pm an ct, fd = PySem.W.fnX F.name F.qual F.params F.body F.scope F.cl .none kV doc pm an (.ref F.c) ct ∧ K.lookup f = some ⟨oc, od, .func fd, osl⟩
  cd : PySem.W.codeIn K (.ref F.c) F.qual = true
  cl : ∃ cc oc od osl, F.cl = [(("__class__" : Str), cc)] ∧ K.lookup cc = some ⟨oc, od, .cell (some (.ref C)), osl⟩
  par : ∃ ar ps', (F.params.posonlyargs ++ F.params.args).head? = some ar ∧ ps = ar.arg :: ps' ∧ F.scope.names.lookup ar.arg = some .local
  code : ∃ ccl cdd vs ccs file tf, K.lookup F.c = some ⟨ccl, cdd, .fields vs, ccs⟩ ∧ vs[2]? = some (.str file tf) ∧ ((P.main.file : Str) == file) = true
  cls : ∃ cdD, clsIn K C = some cdD
  sub : mroIn K C (.ref C) = some true
  ks : F.scope.names.lookup ("super" : Str) = some .globalImplicit
  kc : F.scope.names.lookup ("__class__" : Str) = some .free
  mg : mg "super" = none
  top : (P.main.scope.names.lookup ("super" : Str)).isSome = false
  opq : nsIn K cStatics "thirdparty.any" = some none
  sup : ks_superIn K C C "__init__" = some (some (.builtin "ValueError.__init__"))
  ve : subIn K (.ref C) (.type "ValueError") = some true
  ex : OexC K C
section
variable {CX : CXT} {P : Program} {w : World} {K : PySem.W.Frag} {mg : Str → Option Value} {base : Heap} {N ps : List Str} {F : NF} {C f : Addr} {fd : FuncData} {k : Nat} {sp : Sp} {t : Str} {rest : List Stmt} {p0 p1 p2 p3 p4 pc : Pos} {j : Nat} {pl : Sem Bool}
theorem fn_exc (S : NScope N ps ["__class__"] F.scope) (Y : SupC P K mg C f fd F ps) (hbd : F.body = .Expr (.Call (.Attribute (.Call (.Name "super" p0) [] [] p1) "__init__" p2) [.Constant (.str t) j pc] [] p3) p4 :: rest)
    (hev : ∀ L : Addr, eval (.Call (.Attribute (.Call (.Name "super" p0) [] [] p1) "__init__" p2) [.Constant (.str t) j pc] [] p3) (envF F f L) = (do
      let ov ← attributeBase (.Call (.Name "super" p0) [] [] p1) "__init__" (envF F f L) (eval (.Call (.Name "super" p0) [] [] p1) (envF F f L))
      standAt p2.atName
      let (g, first) ← holding [ov] (getMethod ov "__init__" pl)
      callWith p3 g first (backTo p3 (starEach [.Constant (.str t) j pc] (envF F f L))) []))
    (hint : ∀ L : Addr, interactive (envF F f L) = false)
    (len : ∀ vs H Q E, sp vs H Q E → vs.length = ps.length)
    (hbody : ∀ (A : Around) (outer : List Env) (s : Shared) (H : Hp) (vs : List V) (Q : VK) (E : XK), Room k (A.deeper (envF F f s.heap.objs.size)) → sp vs H Q E →
      ∃ a vs', vs = .ref a :: vs' ∧ H a = some (exo a C none) ∧ ∃ t, PSs (ncx CX P w K mg base N F f A outer s H E) rest t ∧ t { nx := fun _ H' => Q .non H', rt := Q } (startF N vs [none]) H) :
    FnOk P w K mg base CX (k + 1) f fd ps sp := by
  obtain ⟨oc, od, osl, kV, doc, pm, an, ct, rfl, lk⟩ := Y.lk
  refine ⟨len, fun A outer s H args us vs Q E hr e0 hb r hsp => ?_⟩
  have hl := len _ _ _ _ hsp
  have KX : K.In s.heap := e0.mod.kin.keeps fun b o e => (e0.bs b o e).1
  have lim : s.heap.NoLimit := e0.mod.nolimit.keeps fun b o e => (e0.bs b o e).1
  refine codeAny_call_function hr.depth (KX _ _ lk) rfl S.co S.gen rfl (PySem.W.codeRec_of KX Y.cd) (hb _ _ _ _ ?_)
  refine wpAny_newFunctionEnv S.nocell (fun ⟨n, _⟩ hy => S.par n (List.of_mem_zip hy).1) (fun h₁ hns hsb => ⟨lim.fresh _ hsb, ?_⟩) S.kind
  show codeAny _ _ (.func F.body (envF F f s.heap.objs.size)) _ _
  have kp : ∀ b o, s.heap.get? b = some o → h₁.get? b = some o := fun b o e => hsb.extBut b o (Nat.ne_of_lt (Heap.lt_size e)) (Heap.get?_push_of_some _ e)
  obtain ⟨a, vs', rfl, ea, tt, ht, hq⟩ := hbody A outer s H vs Q E (hr.deeper _) hsp
  obtain ⟨cc, kc0, kc1, kc2, hcl, hcc⟩ := Y.cl
  have ccb : base.get? cc = some ⟨kc0, kc1, .cell (some (.ref C)), kc2⟩ := e0.mod.kin _ _ hcc
  have CA : CellsAt F.cl ["__class__"] [none] s.heap H := by
    rw [hcl]
    have look : ∀ y c, ([(("__class__" : Str), cc)] : List (Str × Addr)).lookup y = some c → y = "__class__" ∧ c = cc := fun y c e => by
      rw [List.lookup_cons] at e
      cases h : (y == ("__class__" : Str)) with
      | true => rw [h] at e; cases e; exact ⟨eq_of_beq h, rfl⟩
      | false => rw [h] at e; cases e
    refine ⟨rfl, fun y c e => ?_, fun x y c e1 e2 => ?_, fun i y e => ?_⟩
    · obtain ⟨_, rfl⟩ := look y c e
      exact ⟨(e0.bs _ _ ccb).2, _, ⟨_, (e0.bs _ _ ccb).1, rfl⟩⟩
    · rw [(look x c e1).1, (look y c e2).1]
    · cases i with
      | zero =>
        cases e
        exact ⟨cc, by rfl, fun v e => by cases e⟩
      | succ i => cases e
  have I : Inv (ncx CX P w K mg base N F f A outer s H E) [] (startF N (.ref a :: vs') [none]) H { s with heap := h₁, toks := s.toks + (ps.zip us).length } := inv_startN S hr.hd e0 hl r CA hns kp
  refine ks_codeAny_funcAt ?_
  have fin : ∀ {σ' : L2.St} {H' : Hp} {v : V} {u : Value} {s' : Shared}, Inv (ncx CX P w K mg base N F f A outer s H E) [] σ' H' s' → RelV v u → Q v H' → CE outer P w H s Q u s' :=
    fun {σ' H' v u s'} J rv q => ⟨v, H', J.os, J.bare, J.base, J.hok, rv, q⟩
  have tail : ∀ s1 : Shared, Inv (ncx CX P w K mg base N F f A outer s H E) [] (startF N (.ref a :: vs') [none]) H s1 →
      _root_.PySem.wpAt (model P w) (A.deeper (envF F f s.heap.objs.size)) (.func F.body (envF F f s.heap.objs.size)) (execs rest (envF F f s.heap.objs.size)) (fun f s' => CR CX outer P w H s Q E (.ok (.ret (match f with | .ret v => v | _ => .none))) s')
        (fun e s' => wpAny (model P w) (A.deeper (envF F f s.heap.objs.size)) (leaving (envF F f s.heap.objs.size) e) (fun _ s'' => CR CX outer P w H s Q E (.error e) s'') (fun e' s'' => CR CX outer P w H s Q E (.error e') s'') s') s1 := by
    intro s1 I1
    refine wpAt_of_wpAny (wpAny_mono (ht.run [] _ (startF N (.ref a :: vs') [none]) H _ I1 hq) (fun fl s' hs => ?_) fun e s' hs => hs)
    cases fl with
    | ret u =>
      obtain ⟨v, σ', H', J, rv, q⟩ := hs
      exact fin J rv q
    | next =>
      obtain ⟨σ', H', J, q⟩ := hs
      exact fin (v := V.non) (u := Value.none) J rfl q
    | brk =>
      obtain ⟨_, _, _, q⟩ := hs
      exact False.elim q
    | cont =>
      obtain ⟨_, _, _, q⟩ := hs
      exact False.elim q
  rw [hbd]
  rw [← hbd]
  refine (congrArg (fun z => _root_.PySem.wpAt (model P w) (A.deeper (envF F f s.heap.objs.size)) (.func F.body (envF F f s.heap.objs.size)) (execs z (envF F f s.heap.objs.size)) _ _ _) hbd).mpr ?_
  refine ks_wpAt_execs_cons (ks_wpAt_Expr_any (ks_wpAt_MethodCall ?_ (hev _)) (hint _))
  obtain ⟨ar, ps', hp, hps, hka⟩ := Y.par
  obtain ⟨ccl, cdd, cvs, ccs, file, tf, hcode, hvs, hfile⟩ := Y.code
  obtain ⟨cdD, hD⟩ := Y.cls
  obtain ⟨oD, hD1, hD2⟩ : ∃ oD, h₁.get? C = some oD ∧ oD.data = .cls cdD := by
    unfold clsIn at hD
    split at hD
    · rename_i c d cd' sl ho
      cases hD
      exact ⟨_, I.kIn _ _ ho, rfl⟩
    · cases hD
  obtain ⟨t1, ho⟩ := exo_at I.hok ea
  obtain ⟨mb, hb1, hb2⟩ := I.mod.blt
  have hboot : bootBuiltins "super" = some (.type "super") := by kernel_rfl
  refine ks_wpAt_super_base (env := envF F f s.heap.objs.size) (fd := PySem.W.fnX F.name F.qual F.params F.body F.scope F.cl .none kV doc pm an (.ref F.c) ct) Y.ks Y.kc (by decide) rfl (I.kIn _ _ lk) rfl hp rfl (I.kIn _ _ hcode) rfl hvs hfile Y.top ?_
  refine ks_loadName_global S.kind Y.ks (loadGlobal_builtin (env := envF F f s.heap.objs.size) (I.mod.glob.keeps I.bk) Y.mg (hb1.keeps I.bk) ((hb2 _ (by decide)).trans hboot) ⟨rfl, ?_⟩)
  refine wpAny_loadName_free S.kind Y.kc (show List.lookup ("__class__" : Str) F.cl = some cc by rw [hcl]; rfl) ⟨_, I.kIn _ _ hcc, rfl⟩ ?_
  have hself : (ps.zip us).reverse.lookup ar.arg = some (.ref a) := by
    have ndP : ps.Nodup := by
      have q := S.nd.sublist (List.take_sublist (ps.length + [("__class__" : Str)].length) N)
      rw [S.pre] at q
      exact (List.nodup_append.mp q).1
    cases r with
    | cons rx rr =>
      cases rx
      exact zip_look (i := 0) ndP (by rw [hps]; rfl) rfl
  refine wpAny_loadName_local S.kind hka hns hself ?_
  refine ks_wpAny_isType_cls hD1 hD2 ⟨rfl, ?_⟩
  refine ks_wpAny_call_super hD1 hD2 ho rfl (fun c e => by cases e) (looks_mroIn I.kIn Y.sub) (fun h2 e2 k2 => ?_)
  have I2 := I.kept (t' := s.toks + (ps.zip us).length) (h' := h2) k2
  have ho2 := k2 _ _ ho
  have A2 : InstAt h2 a { cls := .ref C, dict := none, data := .fields #[.ref t1, .none, .none, .none, .bool false, .none] } C none := ⟨ho2, rfl, rfl, trivial⟩
  have hI : Looks (model P w) h2 (isInstance (.ref a) (.type "ValueError")) true := A2.type.andThen (looks_subIn I2.kIn Y.ve)
  have hsu := Y.sup
  unfold ks_superIn at hsu
  rw [hD] at hsu
  refine kxs_getMethod kxs_ValueError e2 (looks_opaque I2.kIn Y.opq) (l₀ := cdD.mro) (fun A Q E s k q => wpAny_bind ((looks_clsIn I2.kIn hD) A _ E s k (wpAny_pure q))) rfl I2.kIn hsu hI (ks_ne I2.kIn A2 hD) (by decide) ?_
  have I3 := I2.kept (t' := s.toks + (ps.zip us).length + 1) (h' := h2.push (kxs_mw "ValueError.__init__" a)) (fun b o e => Heap.get?_push_of_some _ e)
  have hu : (h2.push (kxs_mw "ValueError.__init__" a)).get? h2.objs.size = some (kxs_mw "ValueError.__init__" a) := Heap.get?_push_at rfl rfl
  refine kxs_callWith (i := "ValueError.__init__") (x := a) rfl ?_
  refine evalArgs_plain (spliced_cons ?_)
  show wpAny _ _ (eval (.Constant (.str t) j pc) (envF F f s.heap.objs.size)) _ _ _
  refine Calls.Constant_str (spliced_nil ⟨hu, ?_⟩)
  obtain ⟨nm, q, NN, bs, bm, sn, sub, ab, col, dd, k0, k1, k2', k3, k5, hC, hbm⟩ := Y.ex.cls
  have hC3 := I3.kIn _ _ hC
  have ho3 : (h2.push (kxs_mw "ValueError.__init__" a)).get? a = some (PySem.W.excObj C t1 none .none) := Heap.get?_push_of_some _ ho2
  refine wpAny_call (codeAny_of_tree ?_)
  show wpAny _ (A.deeper (envF F f s.heap.objs.size)).in1 (callAny (.ref h2.objs.size) ⟨_, []⟩) _ _ _
  simp only [callAny]
  refine wpAny_bind (wpAny_load hu ?_)
  simp only [kxs_mw, show (Value.type "method-wrapper" == Value.type "method" || Value.type "method-wrapper" == Value.type "builtin_function_or_method" || Value.type "method-wrapper" == Value.type "method-wrapper") = true by decide, if_true]
  refine KFB.if_so (by decide) ?_
  refine wpAny_bind (check_bound_init PySem.F.excBase_ValueError.toExcCallFacts hC3 ho3 rfl ?_)
  refine wpAny_bind (wpAny_pure (wpAny_pure ?_))
  refine ⟨plainId_quiet PySem.F.excBase_ValueError.init.plain _, codeAny_builtin PySem.F.excBase_ValueError.initEntry ?_⟩
  refine exc_init_tree (cls := .ref C) (t0 := t1) (dv := none) (c2 := .none) (c3 := .none) (b4 := .bool false) ho3 (by rw [sizeLine_eq]; simp) (fun h4 kk e4 t4 => ?_)
  have J := I3.write (h' := h4) (t' := s.toks + (ps.zip us).length + 1 + 1) (x := a) (e := a) (o := exo a C none) (by rw [ea]; exact True.intro) (.inl rfl) kk ⟨_, e4⟩ (exo_ok e4)
  have eu : upd H a (exo a C none) = H := by
    funext b
    by_cases hb : b = a
    · rw [hb, upd_same, ea]
    · rw [upd_ne hb]
  rw [eu] at J
  exact tail _ J
end
end Sim

/-! own exceptions: what the top's end says of them -/
namespace Sim
open PySem PySem.Spec PyProof.Rows L2 PySem.W PySem.Calls NdefX
def oexB (K : Frag) (C : Addr) : Bool := (match K.lookup C with
  | some ⟨.type "type", _, .cls cd, sl⟩ => (match cd.mro, sl.toList with
    | .ref C' :: bm, [_, _, _, _, some (.builtin n), _] => C' == C && n == "ValueError.__new__" && !cd.hasDel && PySem.HandSPX.refsVE bm && cd.hasDict
    | _, _ => false)
  | _ => false) && (decide (findIn K (.ref C) "__setattr__" = some (some (.builtin "object.__setattr__"))) && (decide (subIn K (.ref C) (.type "BaseException") = some true) && (decide (typeIn K (.ref C) = some (.type "type")) && keepIn K (.ref C))))
theorem oexB_ok {K : Frag} {C : Addr} (h : oexB K C = true) : OexC K C := by
  unfold oexB at h
  obtain ⟨q, h⟩ := He.ba h
  obtain ⟨h1, h⟩ := He.ba h
  obtain ⟨h2, h⟩ := He.ba h
  obtain ⟨h3, h4⟩ := He.ba h
  refine ⟨?_, of_decide_eq_true h1, of_decide_eq_true h2, of_decide_eq_true h3, h4⟩
  split at q
  · rename_i dd cd sl ho
    split at q
    · rename_i C' bm k0 k1 k2 k3 n k5 hm hs
      simp only [Bool.and_eq_true, beq_iff_eq, Bool.not_eq_true'] at q
      obtain ⟨⟨⟨⟨rfl, rfl⟩, hdel⟩, ht⟩, hdict⟩ := q
      obtain ⟨nm, bs, mro, ns, qn, hd, sn, sub, ab, col, del⟩ := cd
      dsimp only at hm hdel hdict
      subst hm hdel hdict
      have hsl : sl = #[k0, k1, k2, k3, some (.builtin "ValueError.__new__"), k5] := by
        rw [← Array.toArray_toList (xs := sl), hs]
      subst hsl
      exact ⟨nm, qn, ns, bs, bm, sn, sub, ab, col, dd, k0, k1, k2, k3, k5, ho, ht⟩
    · cases q
  · cases q
/-- an own __init__ of an exception class: what is looked at -/
abbrev FnY : Type := Option (Str × Arguments × FuncBody × Scope × Addr × List Str × Addr)
structure XcD where
  cls : Str
  qual : Str
  params : Arguments
  body : List Stmt
  scope : Scope
def xcAd (K : Frag) (x : Str) : Addr := He.ma K (He.ga K x) "__init__"
def fnY (K : Frag) (x : Str) : FnY := match K.lookup (xcAd K x) with
  | some ⟨_, _, .func fd, _⟩ => some (fd.qualname, fd.params, fd.body, fd.scope, fd.globals, fd.closure.map (·.1), fd.builtins)
  | _ => none
def XcD.val (d : XcD) : FnY := some (d.qual, d.params, .stmts d.body, d.scope, mainGlobals, ["__class__"], builtinsNs)
def XcD.fdB (K : Frag) (file : Str) (d : XcD) : Bool := match K.lookup (xcAd K d.cls) with
  | some ⟨_, _, .func fd, _⟩ => (match fd.closure with
    | [(_, cc)] => (match K.lookup cc with
      | some ⟨_, _, .cell (some (.ref D)), _⟩ => D == He.ga K d.cls
      | _ => false)
    | _ => false) && (match fd.code with
    | .ref cda => codeIn K (.ref cda) d.qual && (match K.lookup cda with
      | some ⟨_, _, .fields vs, _⟩ => (match (vs[2]? : Option Value) with
        | some (.str fl _) => fl == file
        | _ => false)
      | _ => false)
    | _ => false) && (decide (fd.name = ("__init__" : Str)) && (match fd.defaults with
    | .none => true
    | _ => false))
  | _ => false
def XcD.ok (K : Frag) (file : Str) (d : XcD) : Bool := d.fdB K file && (oexB K (He.ga K d.cls) && ((clsIn K (He.ga K d.cls)).isSome && (decide (mroIn K (He.ga K d.cls) (.ref (He.ga K d.cls)) = some true) &&
  (decide (nsIn K cStatics "thirdparty.any" = some none) && (decide (ks_superIn K (He.ga K d.cls) (He.ga K d.cls) "__init__" = some (some (.builtin "ValueError.__init__"))) && (decide (subIn K (.ref (He.ga K d.cls)) (.type "ValueError") = some true) &&
  (decide (findIn K (.ref (He.ga K d.cls)) "__init__" = some (some (.ref (xcAd K d.cls)))) && decide (typeIn K (.ref (xcAd K d.cls)) = some (.type "function")))))))))
/-- what is known of the class -/
structure XcK (P : Program) (K : Frag) (mg : Str → Option Value) (d : XcD) : Prop where
  ex : ∃ fd cc c, SupC P K mg (He.ga K d.cls) (xcAd K d.cls) fd ⟨"__init__", d.qual, d.params, d.body, d.scope, [("__class__", cc)], c⟩ ((d.params.posonlyargs ++ d.params.args).map (·.arg))
  oex : OexC K (He.ga K d.cls)
  ini : findIn K (.ref (He.ga K d.cls)) "__init__" = some (some (.ref (xcAd K d.cls)))
  ty : typeIn K (.ref (xcAd K d.cls)) = some (.type "function")
theorem XcD.known {P : Program} {K : Frag} {mg : Str → Option Value} {d : XcD} (e : fnY K d.cls = d.val) (c : d.ok K P.main.file = true) (hmg : mg "super" = none) (htop : (P.main.scope.names.lookup ("super" : Str)).isSome = false)
    (hks : d.scope.names.lookup ("super" : Str) = some .globalImplicit) (hkc : d.scope.names.lookup ("__class__" : Str) = some .free) {ar : Arg} {ars : List Arg} (hpa : d.params.posonlyargs ++ d.params.args = ar :: ars) (hka : d.scope.names.lookup ar.arg = some .local) : XcK P K mg d := by
  unfold XcD.ok at c
  obtain ⟨c0, c⟩ := He.ba c
  obtain ⟨c1, c⟩ := He.ba c
  obtain ⟨c2, c⟩ := He.ba c
  obtain ⟨c3, c⟩ := He.ba c
  obtain ⟨c4, c⟩ := He.ba c
  obtain ⟨c5, c⟩ := He.ba c
  obtain ⟨c6, c⟩ := He.ba c
  obtain ⟨c7, c8⟩ := He.ba c
  refine ⟨?_, oexB_ok c1, of_decide_eq_true c7, of_decide_eq_true c8⟩
  unfold XcD.fdB at c0
  unfold fnY at e
  cases q : K.lookup (xcAd K d.cls) with
  | none => rw [q] at c0; cases c0
  | some o =>
    obtain ⟨oc, od, dt, osl⟩ := o
    rw [q] at c0 e
    cases dt with
    | func fd =>
      obtain ⟨n1, n2, n3, n4, n5, n6, n7, n8, n9, n10, n11, n12, n13, n14, n15⟩ := fd
      have e2 : (some (n2, n3, n4, n5, n6, n7.map (·.1), n15) : FnY) = (some (d.qual, d.params, .stmts d.body, d.scope, mainGlobals, ["__class__"], builtinsNs) : FnY) := e
      simp only [Option.some.injEq, Prod.mk.injEq] at e2
      obtain ⟨h2, h3, h4, h5, h6, h7, h8⟩ := e2
      subst h2 h3 h4 h5 h6 h8
      dsimp only at c0
      obtain ⟨kab, kc⟩ := He.ba c0
      obtain ⟨kA, kB⟩ := He.ba kab
      obtain ⟨kc, kd⟩ := He.ba kc
      have kc := of_decide_eq_true kc
      subst kc
      clear kab c0
      have kd2 : n8 = Value.none := by
        cases n8 with
        | none => rfl
        | _ => cases kd
      subst kd2
      cases n7 with
      | nil => cases h7
      | cons p r =>
        cases r with
        | cons _ _ => simp at h7
        | nil =>
          obtain ⟨nm, cc⟩ := p
          have hn : nm = ("__class__" : Str) := by
            simp only [List.map_cons, List.map_nil, List.cons.injEq, and_true] at h7
            exact h7
          subst hn
          dsimp only at kA
          cases n13 with
          | ref cda =>
            dsimp only at kB
            obtain ⟨k4, k5⟩ := He.ba kB
            cases qc : K.lookup cc with
            | none => rw [qc] at kA; cases kA
            | some oc2 =>
              obtain ⟨a1, a2, a3, a4⟩ := oc2
              rw [qc] at kA
              cases a3 with
              | cell v =>
                cases v with
                | none => cases kA
                | some v =>
                  cases v with
                  | ref D =>
                    have hD : D = He.ga K d.cls := eq_of_beq kA
                    subst hD
                    cases qd : K.lookup cda with
                    | none => rw [qd] at k5; cases k5
                    | some od2 =>
                      obtain ⟨b1, b2, b3, b4⟩ := od2
                      rw [qd] at k5
                      cases b3 with
                      | fields vs =>
                        dsimp only at k5
                        cases qv : vs[2]? with
                        | none => rw [qv] at k5; cases k5
                        | some v2 =>
                          rw [qv] at k5
                          cases v2 with
                          | str fl tf =>
                            have hfl : fl = P.main.file := eq_of_beq k5
                            subst hfl
                            obtain ⟨cdD, hcd⟩ := Option.isSome_iff_exists.mp c2
                            exact ⟨_, cc, cda, ⟨oc, od, osl, n9, n10, n11, n12, n14, rfl, q⟩, k4, ⟨cc, a1, a2, a4, rfl, qc⟩, ⟨ar, ars.map (·.arg), by rw [hpa]; rfl, by rw [hpa]; rfl, hka⟩, ⟨b1, b2, vs, b4, P.main.file, tf, qd, qv, by simp⟩, ⟨cdD, hcd⟩,
                              of_decide_eq_true c3, hks, hkc, hmg, htop, of_decide_eq_true c4, of_decide_eq_true c5, of_decide_eq_true c6, oexB_ok c1⟩
                          | _ => cases k5
                      | _ => cases k5
                  | _ => cases kA
              | _ => cases kA
          | _ => cases kB
    | _ => cases c0
end Sim

/-! own exceptions raised: their mirrors and promises -/
namespace Sim
open PySem PySem.Spec PyProof.Rows L2 Evl NdefX
/-- an exception's field: data -/
inductive Xv where
  | int (i : Int)
  | str (s : Str)
deriving DecidableEq
def rX : Rep Xv := ⟨fun _ v x => match x with
  | .int i => v = .int i
  | .str s => v = .str s, fun {_ _ v x} _ h => by cases x <;> exact h⟩
structure Xn where
  cls : Str
  fs : List (Str × Xv)
/-- its dict at d -/
def Xat (G : Hp) (e : Xn) (d : Addr) : Prop := ∃ fs, G d = some (.xd fs) ∧ ∀ f x, e.fs.lookup f = some x → ∃ v, fs.lookup f = some v ∧ rX.r G v x
/-- what the __init__ of an own exception keeps: names the fields, in order -/
def spX (C : Addr) (names : List Str) : Sp := fun vs H Q _ => ∃ a ws, vs = .ref a :: ws ∧ ws.length = names.length ∧ H a = some (exo a C none) ∧
  ∀ dx, H dx = none → dx ≠ a → Q .non (upd (upd H dx (exd dx (names.zip ws).reverse)) a (exo a C (some dx)))
/-- may raise -/
def PX {ι α : Type} (K : PySem.W.Frag) (A : AR ι) (R : Rep α) (f : ι → Option (Xn ⊕ α)) : Sp := fun vs H Q E => ∃ G i r, Ex G H ∧ A.r G vs i ∧ f i = some r ∧
  (∀ e, r = .inl e → ∀ d H2 G2, Up G H G2 H2 → Xat G2 e d → E (.ref (He.ga K e.cls)) (some d) H2) ∧ (∀ x, r = .inr x → ∀ v H2 G2, Up G H G2 H2 → R.r G2 v x → Q v H2)
section
variable {K : PySem.W.Frag} {σ : L2.St} {G H G0 H0 : Hp} {ls : List Addr} {cs : Cs} {ta : TA} {ι : Type} {A : AR ι}
/-- the reading of raise C(args) -/
def tRs (t : L2.St → Hp → XK → Prop) (W : WX) : TS := fun _ σ H => t σ H fun cls d H' => W cls d σ H'
theorem x_raise {C : Addr} {names : List Str} {m : Option ι} {i : ι} {W : WX} {D : Ends} {tz : TS} (w : Wo G0 H0 ls G H cs) (ha : EA ta σ G H A m) (hm : m = some i)
    (hl : ∀ G vs, A.r G vs i → vs.length = names.length ∧ vs.length ≤ 1000)
    (k : ∀ vs H2 G2 d, Wo G0 H0 ls G2 H2 cs → A.r G2 vs i → Ex G G2 → G2 d = some (.xd (names.zip vs).reverse) → W (.ref C) (some d) σ H2) :
    tSeq (fun _ σ H => tMkO C (spX C names) [] ta σ H fun cls d H' => W cls d σ H') tz D σ H := by
  refine ha i hm H w.ex (Ex.refl _) _ fun vs H1 G1 u r => ?_
  obtain ⟨h1, h2⟩ := hl _ _ r
  refine ⟨h2, fun a na => ⟨a, vs, by rw [List.append_nil], h1, upd_same .., fun dx hdx hne => ⟨rfl, dx, (names.zip vs).reverse, upd_same .., ?_, ?_, ?_⟩⟩⟩
  · rw [upd_ne hne, upd_same]
  · rw [upd_ne hne] at hdx; exact hdx
  · have hdx' : H1 dx = none := by rw [upd_ne hne] at hdx; exact hdx
    have e : upd (del (upd (upd (upd H1 a (exo a C none)) dx (exd dx (names.zip vs).reverse)) a (exo a C (some dx))) a) dx (.xd (names.zip vs).reverse) = upd H1 dx (.xd (names.zip vs).reverse) := by
      funext b
      by_cases hb : b = dx
      · subst hb; rw [upd_same, upd_same]
      · rw [upd_ne hb, upd_ne hb]
        by_cases hba : b = a
        · subst hba; rw [del_same, na]
        · rw [del_ne hba, upd_ne hba, upd_ne hb, upd_ne hba]
    rw [e]
    have u2 := Up.lay (o := HO.xd (names.zip vs).reverse) u.gh hdx'
    have u3 := u.trans u2
    exact k vs _ _ dx ((w.up u).up u2) (A.mono u2.gg r) u3.gg (upd_same ..)
end
end Sim

/-! the __init__ of an own exception, walked -/
namespace Sim
open PySem PySem.Spec PyProof.Rows L2 Evl NdefX
/-- self.f = the i-th name, for each of these -/
def tFlds (K : PySem.W.Frag) : List (Str × Nat) → TS
  | [] => tNext
  | q :: r => tSeq (tOst K q.1 (tVar 0) (tVar q.2)) (tFlds K r)
section
variable {K : PySem.W.Frag} {σ : L2.St} {H : Hp} {a C dx : Addr} {D : Ends}
theorem flds_go (T : OexC K C) (ha : σ[0]? = some (some (.ref a))) (hne : dx ≠ a) : ∀ (r : List (Str × Nat × V)) (fs : List (Str × V)) (H : Hp), (∀ q ∈ r, PySem.W.findIn K (.ref C) q.1 = some none ∧ σ[q.2.1]? = some (some q.2.2)) →
    fs.length + r.length ≤ 900 → H a = some (exo a C (some dx)) → H dx = some (exd dx fs) → D.nx σ (upd H dx (exd dx ((r.map fun q => (q.1, q.2.2)).reverse ++ fs))) → tFlds K (r.map fun q => (q.1, q.2.1)) D σ H
  | [], fs, H, _, _, hA, hD, k => by
    have e : upd H dx (exd dx fs) = H := by
      funext b
      by_cases hb : b = dx
      · rw [hb, upd_same, hD]
      · rw [upd_ne hb]
    have k : D.nx σ (upd H dx (exd dx fs)) := k
    rw [e] at k
    exact k
  | (f, i, y) :: r, fs, H, hq, hl, hA, hD, k => by
    obtain ⟨h1, h2⟩ := hq _ (List.mem_cons_self ..)
    simp only [List.length_cons] at hl
    refine ⟨y, h2, .ref a, ha, a, C, rfl, T, h1, Or.inr ⟨dx, fs, hA, hD, by omega, ?_⟩⟩
    refine flds_go T ha hne r ((f, y) :: fs) _ (fun q h => hq q (List.mem_cons_of_mem _ h)) (by simp only [List.length_cons]; omega) ?_ (upd_same ..) ?_
    · rw [upd_ne (Ne.symm hne)]; exact hA
    · have e : upd (upd H dx (exd dx ((f, y) :: fs))) dx (exd dx ((r.map fun q => (q.1, q.2.2)).reverse ++ (f, y) :: fs)) = upd H dx (exd dx ((((f, i, y) :: r).map fun q => (q.1, q.2.2)).reverse ++ fs)) := by
        funext b
        by_cases hb : b = dx
        · rw [hb, upd_same, upd_same]; simp
        · rw [upd_ne hb, upd_ne hb, upd_ne hb]
      rw [e]
      exact k
theorem flds_all (T : OexC K C) (ha : σ[0]? = some (some (.ref a))) {q0 : Str × Nat × V} {r : List (Str × Nat × V)} (hq : ∀ q ∈ q0 :: r, PySem.W.findIn K (.ref C) q.1 = some none ∧ σ[q.2.1]? = some (some q.2.2)) (hl : r.length ≤ 800) (hA : H a = some (exo a C none))
    (k : ∀ dx, H dx = none → dx ≠ a → D.nx σ (upd (upd H dx (exd dx ((q0 :: r).map fun q => (q.1, q.2.2)).reverse)) a (exo a C (some dx)))) : tFlds K ((q0 :: r).map fun q => (q.1, q.2.1)) D σ H := by
  obtain ⟨f, i, y⟩ := q0
  obtain ⟨h1, h2⟩ := hq _ (List.mem_cons_self ..)
  refine ⟨y, h2, .ref a, ha, a, C, rfl, T, h1, Or.inl ⟨hA, fun dx hdx hne => ?_⟩⟩
  refine flds_go T ha hne r [(f, y)] _ (fun q h => hq q (List.mem_cons_of_mem _ h)) (by simp; omega) (upd_same ..) (by rw [upd_ne hne, upd_same]) ?_
  have e : upd (upd (upd H dx (exd dx [(f, y)])) a (exo a C (some dx))) dx (exd dx ((r.map fun q => (q.1, q.2.2)).reverse ++ [(f, y)])) = upd (upd H dx (exd dx (((f, i, y) :: r).map fun q => (q.1, q.2.2)).reverse)) a (exo a C (some dx)) := by
    funext b
    by_cases hb : b = dx
    · rw [hb, upd_same, upd_ne hne, upd_same]; simp
    · rw [upd_ne hb]
      by_cases hba : b = a
      · rw [hba, upd_same, upd_same]
      · rw [upd_ne hba, upd_ne hba, upd_ne hb, upd_ne hb]
  rw [e]
  exact k dx hdx hne
end
section
variable {CX : CXT} {P : Program} {w : World} {K : PySem.W.Frag} {mg : Str → Option Value} {base : Heap} {N ps : List Str} {F : NF} {C f : Addr} {fd : FuncData} {k : Nat} {t : Str} {rest : List Stmt} {p0 p1 p2 p3 p4 pc : Pos} {j : Nat} {pl : Sem Bool} {names : List Str} {fi : List (Str × Nat)}
theorem xinit (S : NScope N ps ["__class__"] F.scope) (Y : SupC P K mg C f fd F ps) (hbd : F.body = .Expr (.Call (.Attribute (.Call (.Name "super" p0) [] [] p1) "__init__" p2) [.Constant (.str t) j pc] [] p3) p4 :: rest)
    (hev : ∀ L : Addr, eval (.Call (.Attribute (.Call (.Name "super" p0) [] [] p1) "__init__" p2) [.Constant (.str t) j pc] [] p3) (envF F f L) = (do
      let ov ← attributeBase (.Call (.Name "super" p0) [] [] p1) "__init__" (envF F f L) (eval (.Call (.Name "super" p0) [] [] p1) (envF F f L))
      standAt p2.atName
      let (g, first) ← holding [ov] (getMethod ov "__init__" pl)
      callWith p3 g first (backTo p3 (starEach [.Constant (.str t) j pc] (envF F f L))) []))
    (hint : ∀ L : Addr, interactive (envF F f L) = false) (hno : ∀ f ∈ names, PySem.W.findIn K (.ref C) f = some none) (hps : ps.length = names.length + 1)
    (hr : ∀ (a : Addr) (ws : List V), ws.length = names.length → ∃ (q0 : Str × Nat × V) (r : List (Str × Nat × V)), r.length ≤ 800 ∧ ((q0 :: r).map fun q => (q.1, q.2.1)) = fi ∧ ((q0 :: r).map fun q => (q.1, q.2.2)) = names.zip ws ∧ ∀ q ∈ q0 :: r, q.1 ∈ names ∧ (startF N (.ref a :: ws) [none])[q.2.1]? = some (some q.2.2))
    (hrest : ∀ (A : Around) (outer : List Env) (s : Shared) (H : Hp) (E : XK), PSs (ncx CX P w K mg base N F f A outer s H E) rest (tFlds K fi)) :
    FnOk P w K mg base CX (k + 1) f fd ps (spX C names) := by
  refine fn_exc S Y hbd hev hint (fun vs H Q E h => ?_) (fun A outer s H vs Q E _ h => ?_)
  · obtain ⟨a, ws, rfl, h, _⟩ := h
    rw [List.length_cons, h, hps]
  · obtain ⟨a, ws, rfl, hl, hA, kk⟩ := h
    refine ⟨a, ws, rfl, hA, _, hrest A outer s H E, ?_⟩
    obtain ⟨q0, r, h1, h2, h3, h4⟩ := hr a ws hl
    rw [← h2]
    refine flds_all Y.ex (a := a) (by rfl) (fun q hq => ⟨hno _ (h4 q hq).1, (h4 q hq).2⟩) h1 hA (fun dx hdx hne => ?_)
    rw [h3]
    exact kk dx hdx hne
end
end Sim

/-! calls that may raise, at the caller's slots; try -/
namespace L2
open PySem PySem.Spec PyProof.Rows
section
variable {X : Cx} {CX : CXT} {k : Nat} {f C : Addr} {fd : FuncData} {ps : List Str} {sp : Sp} {E : St → XK} {x m : Str} {p pos apos : Pos} {e o : Expr} {es : List Expr} {ta : TE} {t : TA}
/-- o.m(e, ..), what is raised wished for at the slots -/
def tMethT (C : Addr) (m : Str) (sp : Sp) (E : St → XK) (to : TE) (t : TA) : TE := fun σ H Q => to σ H fun x H1 => ∃ a dx fs, x = .ref a ∧ H1 a = some (.ins C dx fs) ∧ fs.lookup m = none ∧ t σ H1 fun vs H2 => sp (.ref a :: vs) H2 Q (E σ)
theorem pe_methT {pl : Sem Bool} (he : PE X o ta) (c : Cls X.K C) (hm : Meth X.K C m f) (F : FnOk X.prog X.w X.K X.mg X.base CX k f fd ps sp) (hr : Room k X.A) (hb : Binds X.K fd ps []) (hx : ∀ σ, PassesAt CX X σ (E σ)) (ha : PA X (e :: es) t)
    (hst : starEach (e :: es) X.env = (false, eval e X.env) :: starEach es X.env := by rfl) (hpl : (backTo pos (starEach es X.env)).any (·.1) = false := by rfl)
    (ht : eval (.Call (.Attribute o m apos) (e :: es) [] pos) X.env = (do
      let ov ← eval o X.env
      standAt apos.atName
      let (f, first) ← holding [ov] (getMethod ov m pl)
      callWith pos f first (backTo pos (starEach (e :: es) X.env)) (backToKw pos (keywordEach [] X.env))) := by rfl) :
    PE X (.Call (.Attribute o m apos) (e :: es) [] pos) (tMethT C m sp E ta t) := by
  refine ⟨fun pins s σ H Q I h => ?_⟩
  refine PySem.W.methodCall_KW (pl := pl) (thn (he.run pins s σ H _ I h) fun u s1 ⟨x, H1, I1, rx, a, dx, fs, ex, ea, l, q⟩ => ?_) ht
  subst ex
  obtain rfl : u = Value.ref a := rx
  refine getmeth_ok I1 ea c hm l ?_
  refine PySem.W.callWith_K (first := [.ref a]) (h₀ := X.base) I.ok.mod.kin hm.kp (thn (ha.run pos pins s1 σ H1 _ I1 q) fun us s2 ⟨vs, H2, I2, r, q2⟩ => ⟨I2.kIn, ?_⟩) hst hpl
  exact run_fnS (us := .ref a :: us) (vs := .ref a :: vs) F hr hb (hx σ) I2 (.cons rfl r) q2
end
/-- several clauses, each with a name -/
def wManyA (K : PySem.W.Frag) (Wout : WX) (D : Ends) : List (Value × Option Nat × (Addr → Value → Option Addr → TS)) → WX
  | [] => Wout
  | (c, some i, ts) :: r => fun cls d σ H => ∃ b, PySem.W.exmOne K cls c = some b ∧ (b = true → ∀ a, H a = none → ts a cls d { nx := fun σ' H' => D.nx (σ'.set i none) H', rt := D.rt, bk := fun σ' H' => D.bk (σ'.set i none) H', ct := fun σ' H' => D.ct (σ'.set i none) H' } (σ.set i (some (.ref a))) H) ∧
      (b = false → wManyA K Wout D r cls d σ H)
  | (c, none, ts) :: r => fun cls d σ H => ∃ b, PySem.W.exmOne K cls c = some b ∧ (b = true → ∀ a, H a = none → ts a cls d D σ H) ∧ (b = false → wManyA K Wout D r cls d σ H)
end L2
namespace Sim
open PySem PySem.Spec PyProof.Rows L2 Evl
section
variable {K : PySem.W.Frag} {σ : L2.St} {G H W G0 H0 : Hp} {ls : List Addr} {cs : Cs} {ta : TA} {to te : TE} {ι α β γ : Type} {A : AR ι} {R : Rep α} {S : Rep β} {T : Rep γ} {t u : TS} {D : Ends}
/-- a reading that may raise -/
def EX (K : PySem.W.Frag) (te : TE) (σ : L2.St) (G W : Hp) (R : Rep α) (m : Option (Xn ⊕ α)) (Wx : XK) : Prop :=
  ∀ r, m = some r → ∀ H, Ex G H → Ex W H → ∀ Q : VK, (∀ e, r = .inl e → ∀ d H2 G2, Up G H G2 H2 → Xat G2 e d → Wx (.ref (He.ga K e.cls)) (some d) H2) → (∀ x, r = .inr x → ∀ v H2 G2, Up G H G2 H2 → R.r G2 v x → Q v H2) → te σ H Q
theorem Xat.mono {G G2 : Hp} {e : Xn} {d : Addr} (x : Ex G G2) (h : Xat G e d) : Xat G2 e d := by
  obtain ⟨fs, h1, h2⟩ := h
  exact ⟨fs, x d _ h1, fun f y hy => by obtain ⟨v, h3, h4⟩ := h2 f y hy; exact ⟨v, h3, rX.mono x h4⟩⟩
theorem ex_call {f : ι → Option (Xn ⊕ γ)} {ta : TA} {m : Option ι} {Wx : L2.St → XK} (ha : EA ta σ G W A m) : EX K (tCallS (PX K A T f) Wx ta) σ G W T (m >>= f) (Wx σ) := fun z hz H e e' Q qx q => by
  obtain ⟨i, hi, hz⟩ := bindS hz
  refine ha i hi H e e' _ fun vs H1 G1 u1 r1 => ?_
  exact ⟨G1, i, z, u1.gh, r1, hz, fun x hx d H2 G2 u2 r2 => qx x hx d H2 G2 (u1.trans u2) r2, fun x hx v H2 G2 u2 r2 => q x hx v H2 G2 (u1.trans u2) r2⟩
theorem ex_meth {C : Addr} {ns : List Str} {fl : α → List Pd} {m : Option α} {mi : Option ι} {me : Str} {f : α × ι → Option (Xn ⊕ γ)} {ta : TA} {Wx : L2.St → XK} (h : E to σ G W (rObj C ns fl) m) (ha : EA ta σ G W A mi) (hi : ns.contains me = false) :
    EX K (tMethT C me (PX K (aC (rObj C ns fl) A) T f) Wx to ta) σ G W T (m >>= fun o => mi >>= fun i => f (o, i)) (Wx σ) := fun z hz H e e' Q qx q => by
  obtain ⟨x, hx, hz⟩ := bindS hz
  obtain ⟨y, hy, hz⟩ := bindS hz
  refine h x hx H e e' _ fun v H1 G1 u r => ?_
  obtain ⟨a, dx, fs, rfl, h2, h3⟩ := r
  refine ⟨a, dx, fs, rfl, u.gh a _ h2, look_no h3.1 hi, ?_⟩
  refine (ha.mono u.gg (e'.trans u.hh)) y hy H1 u.gh (Ex.refl _) _ fun vs H3 G3 u3 r3 => ?_
  exact ⟨G3, (x, y), z, u3.gh, ⟨.ref a, vs, rfl, ⟨a, dx, fs, rfl, u3.gg a _ h2, h3.mono u3.gg⟩, r3⟩, hz, fun x hx d H4 G4 u4 r4 => qx x hx d H4 G4 ((u.trans u3).trans u4) r4, fun x hx v H4 G4 u4 r4 => q x hx v H4 G4 ((u.trans u3).trans u4) r4⟩
/-- f(..), alone -/
theorem x_callX {tz : TS} {m : Option (Xn ⊕ α)} {r : Xn ⊕ α} {Wx : XK} (w : Wo G0 H0 ls G H cs) (h : EX K te σ G H R m Wx) (hm : m = some r) (kx : ∀ e, r = .inl e → ∀ d H2 G2, Wo G0 H0 ls G2 H2 cs → Ex G G2 → Xat G2 e d → Wx (.ref (He.ga K e.cls)) (some d) H2)
    (k : ∀ x, r = .inr x → ∀ H2 G2, Wo G0 H0 ls G2 H2 cs → Ex G G2 → tz D σ H2) : tSeq (tDrop te) tz D σ H :=
  h r hm H w.ex (Ex.refl _) (fun _ H1 => tz D σ H1) (fun e he d H2 G2 u x => kx e he d H2 G2 (w.up u) u.gg x) fun x hx v H2 G2 u _ => k x hx H2 G2 (w.up u) u.gg
/-- x = f(..) -/
theorem x_setX {tz : TS} {i : Nat} {m : Option (Xn ⊕ α)} {r : Xn ⊕ α} {Wx : XK} (w : Wo G0 H0 ls G H cs) (h : EX K te σ G H R m Wx) (hm : m = some r) (kx : ∀ e, r = .inl e → ∀ d H2 G2, Wo G0 H0 ls G2 H2 cs → Ex G G2 → Xat G2 e d → Wx (.ref (He.ga K e.cls)) (some d) H2)
    (k : ∀ x, r = .inr x → ∀ v H2 G2, Wo G0 H0 ls G2 H2 cs → Ex G G2 → R.r G2 v x → tz D (σ.set i (some v)) H2) : tSeq (tAsg te (gName i)) tz D σ H :=
  h r hm H w.ex (Ex.refl _) (fun x H1 => gName i x σ H1 (tz D)) (fun e he d H2 G2 u x => kx e he d H2 G2 (w.up u) u.gg x) fun x hx v H2 G2 u y => k x hx v H2 G2 (w.up u) u.gg y
/-- return f(..) -/
theorem x_retX {tz : TS} {m : Option (Xn ⊕ α)} {r : Xn ⊕ α} {Wx : XK} (w : Wo G0 H0 ls G H cs) (h : EX K te σ G H R m Wx) (hm : m = some r) (kx : ∀ e, r = .inl e → ∀ d H2 G2, Wo G0 H0 ls G2 H2 cs → Ex G G2 → Xat G2 e d → Wx (.ref (He.ga K e.cls)) (some d) H2)
    (k : ∀ x, r = .inr x → ∀ v H2 G2, Wo G0 H0 ls G2 H2 cs → Ex G G2 → R.r G2 v x → D.rt v H2) : tSeq (tRet te) tz D σ H :=
  h r hm H w.ex (Ex.refl _) D.rt (fun e he d H2 G2 u x => kx e he d H2 G2 (w.up u) u.gg x) fun x hx v H2 G2 u y => k x hx v H2 G2 (w.up u) u.gg y
/-- e.f of the caught exception -/
theorem e_xf {a d : Addr} {e : Xn} {f : Str} {i : Nat} {y : Int} (hs : σ[i]? = some (some (.ref a))) (hx : Xat G e d) (hf : e.fs.lookup f = some (.int y)) : E (tXf a (.ref (He.ga K e.cls)) (some d) (He.ga K e.cls) f (tVar i)) σ G W rI (some y) := fun z hz H ee e' Q q => by
  cases hz
  obtain ⟨fs, h1, h2⟩ := hx
  obtain ⟨v, h3, h4⟩ := h2 f _ hf
  have h4 : v = .int y := h4
  subst h4
  exact ⟨.ref a, hs, rfl, rfl, d, fs, .int y, rfl, ee d _ h1, h3, q _ H G (Up.refl ee) rfl⟩
theorem e_xfS {a d : Addr} {e : Xn} {f : Str} {i : Nat} {y : Str} (hs : σ[i]? = some (some (.ref a))) (hx : Xat G e d) (hf : e.fs.lookup f = some (.str y)) : E (tXf a (.ref (He.ga K e.cls)) (some d) (He.ga K e.cls) f (tVar i)) σ G W rS (some y) := fun z hz H ee e' Q q => by
  cases hz
  obtain ⟨fs, h1, h2⟩ := hx
  obtain ⟨v, h3, h4⟩ := h2 f _ hf
  have h4 : v = .str y := h4
  subst h4
  exact ⟨.ref a, hs, rfl, rfl, d, fs, .str y, rfl, ee d _ h1, h3, q _ H G (Up.refl ee) rfl⟩
end
end Sim

/-! try with several clauses, each with or without a name -/
namespace L2
open PySem PySem.Spec PyProof.Rows
/-- one clause: its class, the slot of its name, its suite -/
abbrev Cla : Type := Value × Option Nat × (Addr → Value → Option Addr → TS)
def SuOk (X : Cx) (su : List Stmt) (ts : Addr → Value → Option Addr → TS) : Prop := ∀ (a : Addr) (oe : Obj) (cls : Value) (d : Option Addr) (pn : List (Addr × Obj)), Zc cls d oe → (∃ vs, oe.data = .fields vs) → PSs (X.suite a ((a, oe) :: pn)) su (ts a cls d)
inductive HdsA (X : Cx) : List ExceptHandler → List Cla → Prop
  | nil : HdsA X [] []
  | plain {x : Str} {c : Value} {ts} {b₀ : Stmt} {su : List Stmt} {np p : Pos} {hds l} (hc : Names X x c) (hsu : SuOk X (b₀ :: su) ts) (r : HdsA X hds l) : HdsA X (.ExceptHandler (some (.Name x np)) none (b₀ :: su) p :: hds) ((c, none, ts) :: l)
  | as_ {x n : Str} {i : Nat} {c : Value} {ts} {b₀ : Stmt} {su : List Stmt} {np p : Pos} {hds l} (hc : Names X x c) (hi : X.N[i]? = some n) (hln : X.env.kindOf n = some .local) (hsu : SuOk X (b₀ :: su) ts) (r : HdsA X hds l) :
      HdsA X (.ExceptHandler (some (.Name x np)) (some n) (b₀ :: su) p :: hds) ((c, some i, ts) :: l)
/-- the exception at a is in the air over the state s, sI is the state without it -/
structure Aloft (X : Cx) (pins : List (Addr × Obj)) (σ : L2.St) (H : Hp) (cls : Value) (d : Option Addr) (a : Addr) (B : Heap) (sI s : Shared) : Prop where
  inv : Inv X pins σ H sI
  nb : ∀ b o, sI.heap.get? b = some o → b ∉ frs X.stack → B.get? b = some o
  up : sI.heap.UpToSlots s.heap
  fl : HandSPX.FlyingZ B X.stack a (Zc cls d) s.heap
  na : H a = none
  os : s.os = sI.os
  ag : AllBare s.gens
section
variable {X : Cx} {pins : List (Addr × Obj)} {σ : L2.St} {H : Hp} {cls : Value} {d : Option Addr} {a : Addr} {B : Heap} {sI s : Shared}
/-- seen from within a suite -/
theorem Aloft.within (A : Aloft X pins σ H cls d a B sI s) (hs : X.stack = X.env :: X.outer) (hf : X.env.frame = some X.env.locals) :
    ∃ oe, s.heap.get? a = some oe ∧ Zc cls d oe ∧ (∃ vs, oe.data = .fields vs) ∧ Inv X pins σ H s ∧ Inv (X.suite a ((a, oe) :: (X.pn ++ pins))) [] σ H s := by
  obtain ⟨oe, vs, h1, h2, h3⟩ := A.fl.there
  have J : Inv X pins σ H s := A.inv.landed A.nb A.fl.1 A.up A.os A.ag
  have out : a ∉ frs X.stack := fun hm => by
    obtain ⟨_, o, ho, hn⟩ := A.fl.2.2.1.mem hm
    rw [h1] at ho
    cases ho
    exact hn _ h3
  rw [hs] at out
  refine ⟨oe, h1, h2, ⟨vs, h3⟩, J, J.suite h1 h3 A.na (fun z => out ?_) (fun hm => out ?_)⟩
  · exact List.mem_filterMap.mpr ⟨X.env, List.mem_cons_self, by rw [hf, z]⟩
  · obtain ⟨e, he, q⟩ := List.mem_filterMap.mp hm
    exact List.mem_filterMap.mpr ⟨e, List.mem_cons_of_mem _ he, q⟩
/-- no clause is left -/
theorem Aloft.pass {Wout : WX} {Q : Flow → Shared → Prop} (A : Aloft X pins σ H cls d a B sI s) (hs : X.stack = X.env :: X.outer) (hf : X.env.frame = some X.env.locals) (tk : Takes X Wout) (w : Wout cls d σ H) :
    wpAny (model X.prog X.w) X.A (handleBy (.ref a) X.env []) Q X.xe s := by
  have fl := A.fl
  obtain ⟨_, _, _, oe, vs, T, oT, ts, h1, h2, h3, h4, _⟩ := id fl
  refine wpAny_handleBy_nil ?_
  unfold PySem.passOn
  refine wpAny_bind (wpAny_field h1 h3 h4 ?_)
  rw [if_neg (show ¬ ((Value.ref T == Value.none) = true) from by simp)]
  have last : wpAny (model X.prog X.w) X.A (setFlight (.ref a) X.env.frame) (fun _ s4 => wpAny (model X.prog X.w) X.A (throw (.ref a) : Sem Flow) Q X.xe s4) X.xe s := by
    rw [hf]
    rw [hs] at fl
    exact HandSPX.setFlight_upZ fl fun h4 hh up => wpAny_throw (tk _ _ ⟨a, B, sI, pins, σ, H, cls, d, rfl, A.inv, A.nb, A.up.trans up, .inr (.inr (by rw [hs]; exact hh)), A.na, A.os, A.ag, w⟩)
  first
    | exact wpAny_bind (wpAny_pure (wpAny_bind last))
    | exact wpAny_bind last
/-- the clauses, one after the other -/
theorem Aloft.go {Wout : WX} {D : Ends} (A : Aloft X pins σ H cls d a B sI s) (ok : X.Ok) (hN : X.N.Nodup) (hs : X.stack = X.env :: X.outer) (hf : X.env.frame = some X.env.locals) (tk : Takes X Wout) {hds : List ExceptHandler} {l : List Cla}
    (hk : HdsA X hds l) : wManyA X.K Wout D l cls d σ H → wpAny (model X.prog X.w) X.A (handleBy (.ref a) X.env hds) (SP X pins D) X.xe s := by
  obtain ⟨oe, h1, h2, _, J, S⟩ := A.within hs hf
  have ask : ∀ {x : Str} {c : Value} {np : Pos} {Q : Value → Shared → Prop} {E : Value → Shared → Prop}, Names X x c → Q c s → wpAny (model X.prog X.w) (X.A.mark (some (.ref a))) (eval (.Name x np) X.env) Q E s := fun {x c np Q E} hc q => by
    obtain ⟨hg, hd, hm | ⟨hm, hv, hn⟩⟩ := hc
    · exact ld_glob (X := X.suite a ((a, oe) :: (X.pn ++ pins))) S hg hm q hd
    · exact ld_blt (X := X.suite a ((a, oe) :: (X.pn ++ pins))) S hg hm hv q hn hd
  have kind : PySem.W.Looks (model X.prog X.w) s.heap (typeOf (.ref a)) cls := fun A Q E s k q => wpAny_typeOf_ref (k _ _ h1) (by rw [h2.1]; exact q)
  induction hk with
  | nil => exact fun w => A.pass hs hf tk w
  | @plain x c ts b₀ su np p hds l hc hsu r ih =>
    rintro ⟨b, hb, yes, no⟩
    refine wpAny_handleBy_cons (codeAny_handlers_test ?_) (by intro q; cases q)
    refine ask hc ((PySem.W.exm_one (M := model X.prog X.w) J.kIn kind hb).here ?_)
    cases b with
    | false => exact ih (no rfl)
    | true =>
      refine codeAny_handlers_suite ?_
      have fl := A.fl
      rw [hs] at fl
      refine HandSPX.lands_againZ fl fun h4 fl4 up4 => ?_
      have A4 : Aloft X pins σ H cls d a B sI { s with heap := h4 } := ⟨A.inv, A.nb, A.up.trans up4, by rw [hs]; exact fl4, A.na, A.os, A.ag⟩
      obtain ⟨oe4, _, z4, f4, _, S4⟩ := A4.within hs hf
      refine wpAny_mono ((hsu a oe4 cls d _ z4 f4).run [] _ _ H _ S4 (yes rfl a A.na)) (fun f s6 hsp => ?_) (fun _ _ z => False.elim z)
      cases f with
      | ret u => obtain ⟨v, σ6, H6, S6, r6, q⟩ := hsp; exact ⟨v, σ6, H6, S6.unsuite ok, r6, q⟩
      | next => obtain ⟨σ6, H6, S6, q⟩ := hsp; exact ⟨σ6, H6, S6.unsuite ok, q⟩
      | brk => obtain ⟨σ6, H6, S6, q⟩ := hsp; exact ⟨σ6, H6, S6.unsuite ok, q⟩
      | cont => obtain ⟨σ6, H6, S6, q⟩ := hsp; exact ⟨σ6, H6, S6.unsuite ok, q⟩
  | @as_ x n i c ts b₀ su np p hds l hc hi hln hsu r ih =>
    rintro ⟨b, hb, yes, no⟩
    refine wpAny_handleBy_cons (codeAny_handlers_test ?_) (by intro q; cases q)
    refine ask hc ((PySem.W.exm_one (M := model X.prog X.w) J.kIn kind hb).here ?_)
    cases b with
    | false => exact ih (no rfl)
    | true =>
      refine codeAny_handlers_suite_as ?_
      have fl := A.fl
      rw [hs] at fl
      refine HandSPX.lands_againZ fl fun h4 fl4 up4 => ?_
      have A4 : Aloft X pins σ H cls d a B sI { s with heap := h4 } := ⟨A.inv, A.nb, A.up.trans up4, by rw [hs]; exact fl4, A.na, A.os, A.ag⟩
      obtain ⟨oe4, _, z4, f4, _, S4⟩ := A4.within hs hf
      refine store_ok (X := X.suite a ((a, oe4) :: (X.pn ++ pins))) (v := .ref a) S4 hN hi (.inl hln) rfl (fun s5 S5 => ?_) (.inr hln)
      refine wpAny_mono ((hsu a oe4 cls d _ z4 f4).run [] s5 _ H _ S5 (yes rfl a A.na)) (fun f s6 hsp => ?_) (fun _ _ z => False.elim z)
      have off : ∀ {σ6 : L2.St} {H6 : Hp} {Q : Shared → Prop}, Inv (X.suite a ((a, oe4) :: (X.pn ++ pins))) [] σ6 H6 s6 → (∀ s7, Inv X pins (σ6.set i none) H6 s7 → Q s7) →
          wpAny (model X.prog X.w) X.A (do bindName X.env n .none; unbindBehindTheSuite X.env n p) (fun _ s7 => Q s7) X.xe s6 := fun S6 k => gone_ok (S6.unsuite ok) hN hi hln k
      cases f with
      | ret u => obtain ⟨v, σ6, H6, S6, r6, q⟩ := hsp; exact off S6 fun s7 J7 => ⟨v, _, H6, J7, r6, q⟩
      | next => obtain ⟨σ6, H6, S6, q⟩ := hsp; exact off S6 fun s7 J7 => ⟨_, H6, J7, q⟩
      | brk => obtain ⟨σ6, H6, S6, q⟩ := hsp; exact off S6 fun s7 J7 => ⟨_, H6, J7, q⟩
      | cont => obtain ⟨σ6, H6, S6, q⟩ := hsp; exact off S6 fun s7 J7 => ⟨_, H6, J7, q⟩
end
section
variable {X : Cx} {body : List Stmt} {h₀ : ExceptHandler} {hds : List ExceptHandler} {l : List Cla} {pos : Pos} {tb : WX → TS} {Wout : WX}
theorem ps_tryA (hN : X.N.Nodup) (hs : X.stack = X.env :: X.outer) (hf : X.env.frame = some X.env.locals) (tk : Takes X Wout)
    (hb : ∀ (W : WX) (pn : List (Addr × Obj)) (xe : Value → Shared → Prop), Takes (X.tr pn xe) W → PassesOwn (model X.prog X.w) X.A X.env xe → PSs (X.tr pn xe) body (tb W))
    (hh : HdsA X (h₀ :: hds) l) : PS X (.Try body (h₀ :: hds) [] [] pos) (fun D σ H => tb (wManyA X.K Wout D l) D σ H) := by
  refine ⟨fun pins s σ H D I h => wpAny_Try_except ?_⟩
  have ok := I.ok
  refine wpAny_mono ((hb _ (X.pn ++ pins) (fun e s₁ => wpAny (model X.prog X.w) X.A (noteFrame e X.env) (fun _ s₂ => wpAny (model X.prog X.w) X.A (setFlight e none) (fun _ s₃ =>
    wpAny (model X.prog X.w) X.A (handleBy e X.env (h₀ :: hds)) (SP X pins D) X.xe s₃) X.xe s₂) X.xe s₁) (fun u s' xx => ?_) PassesOwn.looking).run [] s σ H D (I.toTry _) h) (fun f s1 hsp => ?_) (fun e s1 he => he)
  · obtain ⟨a, B, sI, pins', σ', H', cls, d, rfl, J, nb, up, sky, na, os, ag, w⟩ := xx
    have sky' : Sky B (X.env :: X.outer) a (Zc cls d) X.env.locals s'.heap := by rw [← hs]; exact sky
    refine Sky.land Zc.steady (by rw [ok.frames, hs]) hf sky' fun h3 fl3 up3 => ?_
    exact Aloft.go (s := { s' with heap := h3 }) ⟨J.ofTry ok, nb, up.trans up3, by rw [hs]; exact fl3, na, os, ag⟩ ok hN hs hf tk hh w
  · cases f with
    | ret u => obtain ⟨v, σ', H', J, r, q⟩ := hsp; exact ⟨v, σ', H', J.ofTry ok, r, q⟩
    | next => obtain ⟨σ', H', J, q⟩ := hsp; exact wpAny_execs_nil ⟨σ', H', J.ofTry ok, q⟩
    | brk => obtain ⟨σ', H', J, q⟩ := hsp; exact ⟨σ', H', J.ofTry ok, q⟩
    | cont => obtain ⟨σ', H', J, q⟩ := hsp; exact ⟨σ', H', J.ofTry ok, q⟩
end
end L2

/-! the hook with own exceptions -/
namespace Sim
open PySem PySem.Spec PyProof.Rows L2 Evl
/-- the property f of the class C, its place, its getter -/
def prP (K : PySem.W.Frag) (C f : Str) : Addr := He.ma K (He.ga K C) f
def wrG (K : PySem.W.Frag) (k : String) (C f : Str) : Addr := match PySem.W.recIn K (prP K C f) k with
  | some (.ref g :: _) => g
  | _ => 0
abbrev prG (K : PySem.W.Frag) (C f : Str) : Addr := wrG K "property" C f
/-- a static method m of the class C -/
structure StatOf (K : PySem.W.Frag) (C : Addr) (m : Str) (p g : Addr) : Prop where
  ga : PySem.W.specialIn K (.ref C) "__getattribute__" = some (some (.builtin "type.__getattribute__"))
  ty : PySem.W.typeIn K (.ref C) = some (.type "type")
  rd : PySem.W.readsIn K C (.type "type") = true
  at_ : PySem.W.findCls K (.ref C) (.type "type") m = some (.get (.builtin "staticmethod.__get__") (.ref p) .none (.ref C))
  rc : ∃ rest, PySem.W.recIn K p "staticmethod" = some (.ref g :: rest)
  hd : PySem.W.handedIn (.ref g) = true
def statB (C f : Str) (K : PySem.W.Frag) : Bool := decide (PySem.W.specialIn K (.ref (He.ga K C)) "__getattribute__" = some (some (.builtin "type.__getattribute__"))) && (decide (PySem.W.typeIn K (.ref (He.ga K C)) = some (.type "type")) &&
  (PySem.W.readsIn K (He.ga K C) (.type "type") && ((match PySem.W.findCls K (.ref (He.ga K C)) (.type "type") f with
    | some (.get (.builtin n) (.ref p) .none (.ref D)) => n == "staticmethod.__get__" && (p == prP K C f && D == He.ga K C)
    | _ => false) && (match PySem.W.recIn K (prP K C f) "staticmethod" with
    | some (.ref g :: _) => PySem.W.handedIn (.ref g)
    | _ => false))))
theorem statB_ok {C f : Str} {K : PySem.W.Frag} (h : statB C f K = true) : StatOf K (He.ga K C) f (prP K C f) (wrG K "staticmethod" C f) := by
  obtain ⟨h1, h⟩ := He.ba h
  obtain ⟨h2, h⟩ := He.ba h
  obtain ⟨h3, h⟩ := He.ba h
  obtain ⟨h4, h5⟩ := He.ba h
  have h4' : PySem.W.findCls K (.ref (He.ga K C)) (.type "type") f = some (.get (.builtin "staticmethod.__get__") (.ref (prP K C f)) .none (.ref (He.ga K C))) := by
    split at h4
    · rename_i n p D e
      simp only [Bool.and_eq_true, beq_iff_eq] at h4
      obtain ⟨rfl, rfl, rfl⟩ := h4
      exact e
    · cases h4
  unfold wrG
  cases e : PySem.W.recIn K (prP K C f) "staticmethod" with
  | none => rw [e] at h5; cases h5
  | some l =>
    rw [e] at h5
    cases l with
    | nil => cases h5
    | cons v r =>
      cases v with
      | ref g => exact ⟨of_decide_eq_true h1, of_decide_eq_true h2, h3, h4', ⟨r, e⟩, h5⟩
      | _ => cases h5
def propB (C f : Str) (K : PySem.W.Frag) : Bool := decide (PySem.W.findIn K (.ref (He.ga K C)) f = some (some (.ref (prP K C f)))) && (decide (PySem.W.specialIn K (.ref (prP K C f)) "__get__" = some (some (.builtin "property.__get__"))) &&
  (decide (PySem.W.takesIn K (.ref (prP K C f)) = some true) && (match PySem.W.recIn K (prP K C f) "property" with
    | some (.ref _ :: _) => true
    | _ => false)))
theorem propB_ok {C f : Str} {K : PySem.W.Frag} (h : propB C f K = true) : PropOf K (He.ga K C) f (prP K C f) (prG K C f) := by
  obtain ⟨h1, h⟩ := He.ba h
  obtain ⟨h2, h⟩ := He.ba h
  obtain ⟨h3, h4⟩ := He.ba h
  refine ⟨of_decide_eq_true h1, of_decide_eq_true h2, of_decide_eq_true h3, ?_⟩
  unfold prG wrG
  cases e : PySem.W.recIn K (prP K C f) "property" with
  | none => rw [e] at h4; cases h4
  | some l =>
    rw [e] at h4
    cases l with
    | nil => cases h4
    | cons v r =>
      cases v with
      | ref g => exact ⟨r, rfl⟩
      | _ => cases h4
/-- a property's getter: a def -/
structure GeD where
  kind : String
  cls : Str
  prop : Str
  qual : Str
  params : Arguments
  body : List Stmt
  scope : Scope
def fnG (K : PySem.W.Frag) (k : String) (C f : Str) : He.FnW := match K.lookup (wrG K k C f) with
  | some ⟨_, _, .func fd, _⟩ => some (fd.name, fd.qualname, fd.params, fd.body, fd.scope, fd.globals, fd.closure, fd.builtins)
  | _ => none
def GeD.val (d : GeD) : He.FnW := some (d.prop, d.qual, d.params, .stmts d.body, d.scope, mainGlobals, [], builtinsNs)
def GeD.ok (K : PySem.W.Frag) (d : GeD) : Bool := (bif d.kind == "property" then propB d.cls d.prop K else statB d.cls d.prop K) && (PySem.W.keepIn K (.ref (wrG K d.kind d.cls d.prop)) && (match K.lookup (wrG K d.kind d.cls d.prop) with
  | some ⟨_, _, .func fd, _⟩ => PySem.W.codeIn K fd.code d.qual && (He.dflB K fd.defaults [] && He.kwdB K fd.kwdefaults [])
  | _ => false))
theorem GeD.funD {K : PySem.W.Frag} {d : GeD} (e : fnG K d.kind d.cls d.prop = d.val) (c : d.ok K = true) : ∃ fd, FunD K d.prop d.qual d.params d.body d.scope [] [] (wrG K d.kind d.cls d.prop) fd := by
  obtain ⟨_, c⟩ := He.ba c
  obtain ⟨kp, c2⟩ := He.ba c
  unfold fnG at e
  cases q : K.lookup (wrG K d.kind d.cls d.prop) with
  | none => rw [q] at c2; cases c2
  | some o =>
    obtain ⟨oc, od, dt, osl⟩ := o
    rw [q] at c2 e
    cases dt with
    | func fd =>
      obtain ⟨n1, n2, n3, n4, n5, n6, n7, n8, n9, n10, n11, n12, n13, n14, n15⟩ := fd
      have e2 : (some (n1, n2, n3, n4, n5, n6, n7, n15) : He.FnW) = (some (d.prop, d.qual, d.params, .stmts d.body, d.scope, mainGlobals, [], builtinsNs) : He.FnW) := e
      simp only [Option.some.injEq, Prod.mk.injEq] at e2
      obtain ⟨h1, h2, h3, h4, h5, h6, h7, h8⟩ := e2
      subst h1 h2 h3 h4 h5 h6 h7 h8
      obtain ⟨k1, k2⟩ := He.ba (show (PySem.W.codeIn K n13 d.qual && (He.dflB K n8 [] && He.kwdB K n9 [])) = true from c2)
      obtain ⟨k3, k4⟩ := He.ba k2
      exact ⟨_, ⟨oc, od, n8, n9, n10, n11, n12, n13, n14, osl, rfl, q, k1, He.dflB_ok k3, He.kwdB_ok k4⟩, kp⟩
    | _ => cases c2
abbrev AlX : Type := He.AlD × Bool × List FnY × List He.FnW
def obsX (fa : List He.Fa) (fn : List He.DefD) (ex : List (PySem.W.Frag → Bool)) (xs : List XcD) (gs : List GeD) (file : Str) (K : PySem.W.Frag) : AlX := (He.obsD fa fn K, (ex.all fun e => e K) && ((xs.all fun d => d.ok K file) && gs.all fun d => d.ok K), (xs.map fun d => fnY K d.cls), gs.map fun d => fnG K d.kind d.cls d.prop)
def obsXG (n : Nat) (fa : List He.Fa) (fn : List He.DefD) (ex : List (PySem.W.Frag → Bool)) (xs : List XcD) (gs : List GeD) (file : Str) (g : Addr → Option Obj) : AlX := obsX fa fn ex xs gs file (He.frG g (cStatics :: He.asD g n))
structure SaysX (fa : List He.Fa) (fn : List He.DefD) (ex : List (PySem.W.Frag → Bool)) (xs : List XcD) (gs : List GeD) (file : Str) (K : PySem.W.Frag) : Prop where
  d : He.SaysD fa fn K
  x : ((ex.all fun e => e K) && ((xs.all fun d => d.ok K file) && gs.all fun d => d.ok K)) = true
  y : (xs.map fun d => fnY K d.cls) = xs.map XcD.val
  g : (gs.map fun d => fnG K d.kind d.cls d.prop) = gs.map GeD.val
def hookX (n : Nat) (fa : List He.Fa) (fn : List He.DefD) (ex : List (PySem.W.Frag → Bool)) (xs : List XcD) (gs : List GeD) (file : Str) : PySem.W.Hook where
  α := AlX
  obs := fun s => obsXG n fa fn ex xs gs file s.heap.get?
  val := fun _ => (He.valD fn, true, xs.map XcD.val, gs.map GeD.val)
  says := fun _ h => ∃ K : PySem.W.Frag, K.In h ∧ SaysX fa fn ex xs gs file K
  of := fun _ _ e => ⟨_, He.frG_in, congrArg (fun z : AlX => z.1) e, congrArg (fun z : AlX => z.2.1) e, congrArg (fun z : AlX => z.2.2.1) e, congrArg (fun z : AlX => z.2.2.2) e⟩
  keeps := fun _ _ _ ⟨K, hK, c⟩ k => ⟨K, PySem.W.Frag.In.keeps hK k, c⟩
theorem obsXG_eq {n : Nat} {fa : List He.Fa} {fn : List He.DefD} {ex : List (PySem.W.Frag → Bool)} {xs : List XcD} {gs : List GeD} {file : Str} {g : Addr → Option Obj} {s : Shared} (h : ∀ a, g a = s.heap.get? a) : obsXG n fa fn ex xs gs file g = (hookX n fa fn ex xs gs file).obs s := by
  have e : g = s.heap.get? := funext h
  rw [e] <;> rfl
structure TxX (fa : List He.Fa) (fn : List He.DefD) (es : List (PySem.W.Frag → Bool)) (xs : List XcD) (gs : List GeD) (file : Str) (K : PySem.W.Frag) (mg : Str → Option Value) : Prop extends TxE fa fn es K mg where
  xo : (xs.all fun d => d.ok K file) = true
  xv : (xs.map fun d => fnY K d.cls) = xs.map XcD.val
  go : (gs.all fun d => d.ok K) = true
  gv : (gs.map fun d => fnG K d.kind d.cls d.prop) = gs.map GeD.val
section
variable {fa : List He.Fa} {fn : List He.DefD} {es : List (PySem.W.Frag → Bool)} {xs : List XcD} {gs : List GeD} {file : Str} {K : PySem.W.Frag} {mg : Str → Option Value}
theorem TxX.mk' {h : Heap} (KX : K.In h) (G : h.Ns mainGlobals mg) (c : SaysX fa fn es xs gs file K) : TxX fa fn es xs gs file K mg := by
  obtain ⟨h1, h2⟩ := He.ba c.x
  obtain ⟨h2, h3⟩ := He.ba h2
  exact ⟨⟨⟨⟨h, KX, G⟩, c.d⟩, h1⟩, h2, c.y, h3, c.g⟩
theorem TxX.xc (T : TxX fa fn es xs gs file K mg) (i : Nat) {d : XcD} (h : xs[i]? = some d) : fnY K d.cls = d.val ∧ d.ok K file = true := by
  have e2 : (xs.map fun d => fnY K d.cls)[i]? = (xs.map XcD.val)[i]? := by rw [T.xv]
  rw [List.getElem?_map, List.getElem?_map, h] at e2
  exact ⟨Option.some.inj e2, List.all_eq_true.mp T.xo d (List.mem_of_getElem? h)⟩
theorem TxX.ge (T : TxX fa fn es xs gs file K mg) (i : Nat) {d : GeD} (h : gs[i]? = some d) : (d.kind = "property" → PropOf K (He.ga K d.cls) d.prop (prP K d.cls d.prop) (prG K d.cls d.prop)) ∧ (d.kind = "staticmethod" → StatOf K (He.ga K d.cls) d.prop (prP K d.cls d.prop) (wrG K "staticmethod" d.cls d.prop) ∧ PySem.W.keepIn K (.ref (wrG K d.kind d.cls d.prop)) = true) ∧ ∃ fd, FunD K d.prop d.qual d.params d.body d.scope [] [] (wrG K d.kind d.cls d.prop) fd := by
  have e2 : (gs.map fun d => fnG K d.kind d.cls d.prop)[i]? = (gs.map GeD.val)[i]? := by rw [T.gv]
  rw [List.getElem?_map, List.getElem?_map, h] at e2
  have o := List.all_eq_true.mp T.go d (List.mem_of_getElem? h)
  have o1 := (He.ba o).1
  refine ⟨fun e => ?_, fun e => ⟨?_, (He.ba (He.ba o).2).1⟩, GeD.funD (Option.some.inj e2) o⟩
  · rw [e] at o1; exact propB_ok o1
  · rw [e] at o1
    exact statB_ok o1
end
/-- further Bools: fields of an exception, isinstance of it, a property -/
def noB (C f : Str) (K : PySem.W.Frag) : Bool := decide (PySem.W.findIn K (.ref (He.ga K C)) f = some none)
theorem noB_ok {C f : Str} {K : PySem.W.Frag} (h : noB C f K = true) : PySem.W.findIn K (.ref (He.ga K C)) f = some none := of_decide_eq_true h
def xfB' (C : Str) (K : PySem.W.Frag) : Bool := xfB K (He.ga K C)
theorem xfB'_ok {C : Str} {K : PySem.W.Frag} (h : xfB' C K = true) : XfC K (He.ga K C) := xfB_ok h
def exmB (C D : Str) (b : Bool) (K : PySem.W.Frag) : Bool := decide (PySem.W.exmOne K (.ref (He.ga K C)) (.ref (He.ga K D)) = some b)
theorem exmB_ok {C D : Str} {b : Bool} {K : PySem.W.Frag} (h : exmB C D b K = true) : PySem.W.exmOne K (.ref (He.ga K C)) (.ref (He.ga K D)) = some b := of_decide_eq_true h
end Sim

/-! isinstance of a caught exception that has fields; properties -/
namespace PySem.W
open PySem PySem.Calls PyProof.Rows PySem.Spec
section
variable {prog : Program} {w : World} {A : Around} {E : Value → Shared → Prop} {s : Shared} {K : Frag} {x D : Addr} {ox : Obj} {od : Obj}
theorem exc_class {Q : Option Value → Shared → Prop} (C : L2.ExcC K D) (X : K.In s.heap) (I : InstAt s.heap x ox D (some od)) (h : Q (some (.ref D)) { s with toks := s.toks + 1 }) : wpAny (model prog w) A (getAttr? (.ref x) "__class__") Q E s := by
  have hf : findObj K D (some od) "__class__" = some (.bind (.builtin "getset_descriptor.__get__") (.builtin "object.__class__")) := findObj_data (by obtain ⟨cd, hc, _⟩ := any_some C.hd; rw [hc]; rfl) C.ha C.hn C.ht
  obtain ⟨hp, g, d, t, os⟩ := s
  have ty := I.type (M := model prog w)
  have ne : (Value.builtin "BaseException.__getattribute__" == Value.builtin "object.__getattribute__") = false := by decide +kernel
  unfold getAttr? getAttrBy? getAttrBy
  refine wpAny_bind (wpAny_mkText (wpAny_bind (wpAny_attempt (wpAny_holding (wpAny_bind (ty.at (wpAny_bind ((looks_findIn (M := model prog w) X C.hg).at ?_))))))))
  refine KFB.if_not (by rw [ne]; rfl) ?_
  unfold getAttrByItsOwn hookBefore callGetattribute boundAndCalled
  refine wpAny_bind (KFB.if_so rfl ((looks_findIn (M := model prog w) X C.hk).at ?_))
  refine wpAny_bind (wpAny_attempt (wpAny_holding (KFB.if_not rfl ?_)))
  rw [PySem.F.excAttr_ValueError.ga.bind (.ref x)]
  refine wpAny_bind (wpAny_pure ?_)
  show wpAny _ _ (call (.builtin "BaseException.__getattribute__") [.ref x, .str "__class__" t]) _ _ _
  refine wpAny_call (codeAny_call_builtin PySem.F.excAttr_ValueError.ga.plain PySem.F.entry_bexc_ga ?_)
  refine @check_slot (model prog w) _ _ ⟨hp, g, d, t + 1, os⟩ "BaseException.__getattribute__" "BaseException" "__getattribute__" (.ref x) [.str "__class__" t] [] _ (by decide +kernel) (by decide +kernel) (ty.andThen (looks_subIn X C.hs)) (PySem.F.args_bexc_ga (.ref x) (.str "__class__" t)) ?_
  unfold Builtin.«object.__getattribute__»
  refine wpAny_bind (wpAny_of_eq (a := ((Value.ref x : Value), [Value.str "__class__" t])) (by first | rfl | (simp only [slotArgs]; rfl)) ?_)
  refine wpAny_bind (wpAny_pure (wpAny_bind (ty.at (wpAny_bind ((looks_find (M := model prog w) X I hf).at ?_)))))
  refine wpAny_bind (wpAny_holding (wpAny_call (class_get (s := ⟨hp, g, d, t + 1, os⟩) (ox := ox) (od := some od) X I C.hm ?_)))
  refine wpAny_pure ?_
  show wpAny _ _ (handedOut (.ref D)) _ _ _
  rw [handedOut_of (v := .ref D) rfl]
  first
    | exact wpAny_pure (wpAny_pure h)
    | exact wpAny_pure h
    | exact wpAny_pure (wpAny_bind (wpAny_pure (wpAny_pure h)))
end
end PySem.W
namespace L2
open PySem PySem.Spec PyProof.Rows
/-- isinstance(e, c), e the caught exception, its dict at dd -/
def rIsX (K : PySem.W.Frag) (D a dd : Addr) : List V → Hp → VK → Prop := fun xs H Q => ∃ (c : V) (cv : Value) (b : Bool) (fs : List (Str × V)), xs = [.ref a, c] ∧ (∀ u, RelV c u → u = cv) ∧ PySem.W.kitOne K (.ref D) cv = some b ∧ H dd = some (.xd fs) ∧ Q (.bl b) H
theorem call_isX {X : Cx} {a D dd : Addr} {oe : Obj} {pn : List (Addr × Obj)} (C : ExcC X.K D) (hz : Zc (.ref D) (some dd) oe) (hf : ∃ vs, oe.data = .fields vs) : CallR (X.suite a ((a, oe) :: pn)) (.builtin "isinstance") (rIsX X.K D a dd) := by
  intro pins s σ H xs us Q I r h
  obtain ⟨c, cv, b, fs, rfl, hcv, e, hd, q⟩ := h
  cases r with
  | cons rx rr =>
    cases rr with
    | cons rt rr =>
      cases rr
      cases rx
      have ec := hcv _ rt
      subst ec
      obtain ⟨hget, _⟩ := I.pin (a, oe) (List.mem_append.mpr (.inl List.mem_cons_self))
      obtain ⟨vs, hv⟩ := hf
      obtain ⟨mA, hns, _⟩ : ObjOk X.prog X.w H s.heap dd (.xd fs) := I.hok dd _ hd
      obtain ⟨od, ho, _⟩ := lookIn_ns hns
      have J : PySem.W.InstAt s.heap a oe D (some od) := ⟨hget, hz.1, by unfold PySem.W.notCls; rw [hv] <;> rfl, by rw [hz.2]; exact ho⟩
      have Z : PySem.W.KitX X.K (.ref a) (.ref D) (fun h => PySem.W.InstAt h a oe D (some od)) := {
        ty := fun _ _ _ I => I.type
        it := (fun _ _ Y _ => by
          obtain ⟨cd, hc, _⟩ := PySem.W.any_some C.hd
          unfold PySem.W.clsIn at hc
          split at hc
          · rename_i ho
            intro A' Q' E' s' k q
            unfold isType loadHead
            exact wpAny_bind (wpAny_loadPart (k _ _ (Y _ _ ho)) (wpAny_pure q))
          · cases hc)
        ne := (PySem.W.handS_kitx_exc (x := a) (ox := oe) C.hg C.hk C.hs C.hd C.ha C.hn C.ht C.hm).ne
        ca := fun Y I k => PySem.W.exc_class C Y I k }
      exact PySem.W.kia_one Z I.kIn J e (fun z => nomatch z) fun tk => ⟨.bl b, H, I.kept (t' := tk) fun _ _ z => z, rfl, q⟩
end L2
namespace Sim
open PySem PySem.Spec PyProof.Rows L2 Evl
section
variable {K : PySem.W.Frag} {σ : L2.St} {G H W : Hp} {to : TE} {ta : TA} {α γ : Type} {T : Rep γ}
/-- o.f, a property -/
theorem e_prop {C : Addr} {ns : List Str} {fl : α → List Pd} {m : Option α} {f : α × Unit → Option γ} {X : XK} (h : E to σ G W (rObj C ns fl) m) : E (tProp C (PF (aC (rObj C ns fl) aN) T f) [] X to) σ G W T (m >>= fun o => f (o, ())) := fun z hz H e e' Q q => by
  obtain ⟨x, hx, hz⟩ := bindS hz
  refine h x hx H e e' _ fun v H1 G1 u r => ?_
  obtain ⟨a, dx, fs, rfl, h2, h3⟩ := r
  refine ⟨a, dx, fs, rfl, u.gh a _ h2, ?_⟩
  exact ⟨G1, (x, ()), z, u.gh, ⟨.ref a, [], rfl, ⟨a, dx, fs, rfl, h2, h3⟩, rfl⟩, hz, fun v H4 G4 u4 r4 => q v H4 G4 (u.trans u4) r4⟩
/-- isinstance(e, X), e the caught exception -/
theorem rc_isX {a dd : Addr} {D : Addr} {c : V} {cv : Value} {b : Bool} {e : Xn} (hcv : ∀ u, RelV c u → u = cv) (hk : PySem.W.kitOne K (.ref D) cv = some b) (hx : Xat G e dd) {Q : VK} (he : Ex G H) (q : Q (.bl b) H) : rIsX K D a dd [.ref a, c] H Q := by
  obtain ⟨fs, h1, _⟩ := hx
  exact ⟨c, cv, b, fs, rfl, hcv, hk, he dd _ h1, q⟩
end
end Sim

namespace Sim
open PySem PySem.Spec PyProof.Rows L2 Evl
theorem look_app {α : Type} {f : Str} {x : α} : ∀ {l r : List (Str × α)}, (∀ y, (f, y) ∉ l) → (l ++ [(f, x)]).lookup f = some x
  | [], _, _ => by simp [List.lookup]
  | (g, y) :: l, r, h => by
    have hg : (f == g) = false := by
      rw [beq_eq_false_iff_ne]
      rintro rfl
      exact h y (List.mem_cons_self ..)
    rw [List.cons_append, List.lookup_cons, hg]
    exact look_app (r := r) fun z hz => h z (List.mem_cons_of_mem _ hz)
theorem look_app' {α : Type} {f g : Str} {x : α} (hne : f ≠ g) : ∀ {l : List (Str × α)} {y : α}, l.lookup f = some y → (l ++ [(g, x)]).lookup f = some y
  | [], _, h => by cases h
  | (k, z) :: l, y, h => by
    rw [List.cons_append, List.lookup_cons]
    rw [List.lookup_cons] at h
    cases e : (f == k) with
    | true => rw [e] at h; exact h
    | false => rw [e] at h; exact look_app' hne h
/-- the fields of a raised exception, from what its arguments tell -/
theorem look_rev {G : Hp} : ∀ {names : List Str} {vs : List V} {xs : List Xv} {f : Str} {x : Xv}, names.Nodup → Paired (rX.r G) vs xs → (names.zip xs).lookup f = some x → ∃ v, (names.zip vs).reverse.lookup f = some v ∧ rX.r G v x
  | [], vs, xs, f, x, _, _, h => by cases h
  | n :: names, [], xs, f, x, _, r, h => by cases r; cases h
  | n :: names, v :: vs, [], f, x, _, r, h => by cases r
  | n :: names, v :: vs, y :: xs, f, x, nd, r, h => by
    cases r with
    | cons r1 r2 =>
    obtain ⟨hn, nd⟩ := List.nodup_cons.mp nd
    rw [List.zip_cons_cons, List.lookup_cons] at h
    rw [List.zip_cons_cons, List.reverse_cons]
    cases e : (f == n) with
    | true =>
      rw [e] at h
      cases h
      have : f = n := eq_of_beq e
      subst this
      exact ⟨v, look_app (r := []) (fun z hz => hn (List.of_mem_zip (List.mem_reverse.mp hz)).1), r1⟩
    | false =>
      rw [e] at h
      obtain ⟨u, h1, h2⟩ := look_rev nd r2 h
      exact ⟨u, look_app' (beq_eq_false_iff_ne.mp e) h1, h2⟩
theorem Xat_mk {G : Hp} {d : Addr} {names : List Str} {vs : List V} {xs : List Xv} {cls : Str} (nd : names.Nodup) (hd : G d = some (.xd (names.zip vs).reverse)) (r : Paired (rX.r G) vs xs) : Xat G ⟨cls, names.zip xs⟩ d :=
  ⟨_, hd, fun f x h => look_rev nd r h⟩
end Sim

/-! a class made whose __init__ may raise; isinstance of whatever was caught; tables of exception classes -/
namespace L2
open PySem PySem.Spec PyProof.Rows
section
variable {X : Cx} {CX : CXT} {k : Nat} {f C : Addr} {fd : FuncData} {ps : List Str} {sp : Sp} {E : St → XK} {x m : Str} {p pos apos : Pos} {e o : Expr} {es : List Expr} {ta : TE} {t : TA}
/-- C(e, ..), what is raised wished for at the slots -/
def tMakeT (C : Addr) (sp : Sp) (E : St → XK) (t : TA) : TE := fun σ H Q => t σ H fun vs H1 => ∀ x dx, H1 x = none → H1 dx = none → dx ≠ x → sp (.ref x :: vs) (upd (upd H1 dx (.own x)) x (.ins C dx [])) (fun v H2 => v = .non ∧ Q (.ref x) H2) (E σ)
theorem run_makeT {pins : List (Addr × Obj)} {σ : St} {H : Hp} {s : Shared} {Q : VK} {us : List Value} {vs : List V} (M : Mk X.K C f) (F : FnOk X.prog X.w X.K X.mg X.base CX k f fd ps sp) (hr : Room (k + 1) X.A) (hb : Binds X.K fd ps [])
    (hx : PassesAt CX X σ (E σ)) (I : Inv X pins σ H s) (r : Vals vs us)
    (h : ∀ x dx, H x = none → H dx = none → dx ≠ x → sp (.ref x :: vs) (upd (upd H dx (.own x)) x (.ins C dx [])) (fun v H2 => v = .non ∧ Q (.ref x) H2) (E σ)) :
    wpAny (model X.prog X.w) X.A (call (.ref C) us) (EP X pins σ Q) X.xe s := by
  have hq := h (s.heap.objs.size + 1) s.heap.objs.size (I.hok.fresh (Nat.le_succ _)) (I.hok.fresh (Nat.le_refl _)) (Nat.ne_of_lt (Nat.lt_succ_self _))
  have I2 := Inv.made (C := C) I
  have r2 : Vals (V.ref (s.heap.objs.size + 1) :: vs) (Value.ref (s.heap.objs.size + 1) :: us) := .cons rfl r
  have hl : (Value.ref (s.heap.objs.size + 1) :: us).length = ps.length := by
    have e := r2.length
    rw [F.len _ _ _ _ hq] at e
    exact e.symm
  have b := hb s (Value.ref (s.heap.objs.size + 1) :: us) I.kIn (by rw [List.append_nil]; exact hl)
  have b2 := hb _ (Value.ref (s.heap.objs.size + 1) :: us) I2.kIn (by rw [List.append_nil]; exact hl)
  rw [List.append_nil] at b2
  refine wpAny_call (make_map (f := f) I.kIn M.makes M.init (beq_iff_eq.mp M.fn) (codeAny_mono (F.run _ X.stack _ _ ⟨Value.ref (s.heap.objs.size + 1) :: us, []⟩ (Value.ref (s.heap.objs.size + 1) :: us) _ _ (E σ) (hr.make C us [])
    (I2.env0.make C us []) b2 r2 hq) fun r s' hq' => ?_))
  cases r with
  | error e => exact hx pins _ _ e s' I2 hq'
  | ok fl =>
    cases fl with
    | ret u =>
      obtain ⟨v, H', I3, rv, ev, q3⟩ := I2.after hq'
      subst ev
      exact ⟨rv, ⟨V.ref (s.heap.objs.size + 1), H', I3, rfl, q3⟩⟩
    | next => exact False.elim hq'
    | brk => exact False.elim hq'
    | cont => exact False.elim hq'
theorem pe_makeT (M : Mk X.K C f) (F : FnOk X.prog X.w X.K X.mg X.base CX k f fd ps sp) (hr : Room (k + 1) X.A) (hg : Gl X x) (hm : X.mg x = some (.ref C)) (hb : Binds X.K fd ps []) (hx : ∀ σ, PassesAt CX X σ (E σ))
    (ha : PA X (e :: es) t) (hdb : (x == ("__debug__" : Str)) = false := by decide) (he : starEach (e :: es) X.env = (false, eval e X.env) :: starEach es X.env := by rfl) (hpl : (backTo pos (starEach es X.env)).any (·.1) = false := by rfl) :
    PE X (.Call (.Name x p) (e :: es) [] pos) (tMakeT C sp E t) := by
  refine ⟨fun pins s σ H Q I h => ?_⟩
  refine wpAny_Call_Name_kw (ld_glob I hg hm ?_ hdb)
  refine PySem.W.callWith_K (h₀ := X.base) I.ok.mod.kin M.kp (thn (ha.run pos pins s σ H _ I h) fun us s1 ⟨vs, H1, I1, r, q⟩ => ⟨I1.kIn, ?_⟩) he hpl
  exact run_makeT M F hr hb (hx σ) I1 r q
/-- nothing is raised here -/
theorem takes_no : Takes X (fun _ _ _ _ => False) := fun _ _ ⟨_, _, _, _, _, _, _, _, _, _, _, _, _, _, _, _, w⟩ => w.elim
end
/-- isinstance(e, c), e the caught exception, whatever its class -/
def rIsZ (K : PySem.W.Frag) (cls : Value) (d : Option Addr) (a : Addr) : List V → Hp → VK → Prop := fun xs H Q => ∃ (D dd : Addr) (c : V) (cv : Value) (b : Bool) (fs : List (Str × V)), cls = .ref D ∧ d = some dd ∧ ExcC K D ∧ xs = [.ref a, c] ∧ (∀ u, RelV c u → u = cv) ∧ PySem.W.kitOne K (.ref D) cv = some b ∧ H dd = some (.xd fs) ∧ Q (.bl b) H
theorem call_isZ {X : Cx} {a : Addr} {cls : Value} {d : Option Addr} {oe : Obj} {pn : List (Addr × Obj)} (hz : Zc cls d oe) (hf : ∃ vs, oe.data = .fields vs) : CallR (X.suite a ((a, oe) :: pn)) (.builtin "isinstance") (rIsZ X.K cls d a) := by
  intro pins s σ H xs us Q I r h
  obtain ⟨D, dd, c, cv, b, fs, rfl, rfl, hC, h⟩ := h
  exact call_isX hC hz hf pins s σ H xs us Q I r ⟨c, cv, b, fs, h⟩
/-- e.f, e the caught exception, whatever its class -/
def tXz (K : PySem.W.Frag) (a : Addr) (cls : Value) (d : Option Addr) (f : Str) (te : TE) : TE := fun σ H Q => te σ H fun x H1 => x = .ref a ∧ ∃ (C dd : Addr) (fs : List (Str × V)) (v : V), cls = .ref C ∧ XfC K C ∧ PySem.W.findIn K (.ref C) f = some none ∧ d = some dd ∧ H1 dd = some (.xd fs) ∧ fs.lookup f = some v ∧ Q v H1
theorem pe_xz {X : Cx} {a : Addr} {oe : Obj} {cls : Value} {d : Option Addr} {pn : List (Addr × Obj)} {e : Expr} {te : TE} {pos : Pos} {n : Str}
    (hz : Zc cls d oe) (hf : ∃ vs, oe.data = .fields vs) (he : PE (X.suite a ((a, oe) :: pn)) e te) (hb : attributeBase e n X.env (eval e X.env) = eval e X.env := by rfl) :
    PE (X.suite a ((a, oe) :: pn)) (.Attribute e n pos) (tXz X.K a cls d n te) := by
  refine ⟨fun pins s σ H Q I h => ?_⟩
  refine attr_of hb (thn (he.run pins s σ H _ I h) fun u s1 hh => ?_)
  obtain ⟨x, H1, I1, rx, ex, C, dd, fs, v, ec, T, hno, ed, ea, l, q⟩ := hh
  subst ex
  obtain rfl : u = Value.ref a := rx
  subst ec
  subst ed
  obtain ⟨ha, _⟩ := I1.pin (a, oe) (List.mem_append_left _ List.mem_cons_self)
  obtain ⟨vs, hd⟩ := hf
  have hx : ObjOk X.prog X.w H1 s1.heap dd (.xd fs) := I1.hok dd _ ea
  obtain ⟨mA, hns, hr⟩ := hx
  obtain ⟨od, ho, hl⟩ := lookIn_ns hns
  obtain ⟨u, hu, ru⟩ := RelO.some_of (v := v) (o := mA n) (by rw [← l]; exact hr n)
  have J : PySem.W.InstAt s1.heap a oe C (some od) := ⟨ha, hz.1, by unfold PySem.W.notCls; rw [hd] <;> rfl, by rw [hz.2]; exact ho⟩
  exact HandSPX.exc_get I1.kIn J T.ga T.gg T.exC (PySem.W.findObj_own T.hdC hno rfl (by rw [hl, hu])) (handed_of ru) ⟨v, H1, I1.tok _, ru, q⟩
end L2
namespace Sim
open PySem PySem.Spec PyProof.Rows L2 Evl
/-! tables: what the top's end says of the exception classes cs -/
def excCB (K : PySem.W.Frag) (D : Addr) : Bool := decide (PySem.W.findIn K (.ref D) "__getattribute__" = some (some (.builtin "BaseException.__getattribute__"))) && (decide (PySem.W.findIn K (.ref D) "__getattr__" = some none) &&
  (decide (PySem.W.subIn K (.ref D) (.type "BaseException") = some true) && (PySem.W.hasDictIn K D && (decide (PySem.W.findIn K (.ref D) "__class__" = some (some (.builtin "object.__class__"))) &&
  (decide (PySem.W.specialIn K (.builtin "object.__class__") "__get__" = some (some (.builtin "getset_descriptor.__get__"))) && (decide (PySem.W.takesIn K (.builtin "object.__class__") = some true) && decide (PySem.W.mroIn K D (.type "object") = some true)))))))
theorem excCB_ok {K : PySem.W.Frag} {D : Addr} (h : excCB K D = true) : ExcC K D := by
  obtain ⟨h1, h⟩ := He.ba h
  obtain ⟨h2, h⟩ := He.ba h
  obtain ⟨h3, h⟩ := He.ba h
  obtain ⟨h4, h⟩ := He.ba h
  obtain ⟨h5, h⟩ := He.ba h
  obtain ⟨h6, h⟩ := He.ba h
  obtain ⟨h7, h8⟩ := He.ba h
  exact ⟨of_decide_eq_true h1, of_decide_eq_true h2, of_decide_eq_true h3, h4, of_decide_eq_true h5, of_decide_eq_true h6, of_decide_eq_true h7, of_decide_eq_true h8⟩
/-- each of cs: an exception class that is told by its fields -/
def xsB (cs : List Str) (K : PySem.W.Frag) : Bool := cs.all fun C => excCB K (He.ga K C) && xfB K (He.ga K C)
/-- no attribute of these names in the classes -/
def xnB (cs : List Str) (fs : List Str) (K : PySem.W.Frag) : Bool := cs.all fun C => fs.all fun f => noB C f K
/-- for each of cs: the clause 'except D' -/
def xaB (cs : List Str) (D : Str) (b : Bool) (K : PySem.W.Frag) : Bool := cs.all fun C => exmB C D b K
def kiB (C : Str) (v : Value) (b : Bool) (K : PySem.W.Frag) : Bool := decide (PySem.W.kitOne K (.ref (He.ga K C)) v = some b)
/-- for each of cs: isinstance(e, D) -/
def xkB (cs : List Str) (D : Str) (ds : List Str) (K : PySem.W.Frag) : Bool := cs.all fun C => kiB C (.ref (He.ga K D)) (ds.contains C) K
def xkTB (cs : List Str) (D : String) (b : Bool) (K : PySem.W.Frag) : Bool := cs.all fun C => kiB C (.type D) b K
section
variable {K : PySem.W.Frag} {cs fs : List Str} {C D f : Str} {b : Bool}
theorem xs_ok (h : xsB cs K = true) (hC : cs.contains C = true) : ExcC K (He.ga K C) ∧ XfC K (He.ga K C) := by
  have := List.all_eq_true.mp h C (List.contains_iff_mem.mp hC)
  obtain ⟨h1, h2⟩ := He.ba this
  exact ⟨excCB_ok h1, xfB_ok h2⟩
theorem xn_ok (h : xnB cs fs K = true) (hC : cs.contains C = true) (hf : fs.contains f = true) : PySem.W.findIn K (.ref (He.ga K C)) f = some none :=
  noB_ok (List.all_eq_true.mp (List.all_eq_true.mp h C (List.contains_iff_mem.mp hC)) f (List.contains_iff_mem.mp hf))
theorem xa_ok (h : xaB cs D b K = true) (hC : cs.contains C = true) : PySem.W.exmOne K (.ref (He.ga K C)) (.ref (He.ga K D)) = some b := exmB_ok (List.all_eq_true.mp h C (List.contains_iff_mem.mp hC))
theorem xk_ok {ds : List Str} (h : xkB cs D ds K = true) (hC : cs.contains C = true) : PySem.W.kitOne K (.ref (He.ga K C)) (.ref (He.ga K D)) = some (ds.contains C) := of_decide_eq_true (List.all_eq_true.mp h C (List.contains_iff_mem.mp hC))
theorem xkT_ok {D : String} (h : xkTB cs D b K = true) (hC : cs.contains C = true) : PySem.W.kitOne K (.ref (He.ga K C)) (.type D) = some b := of_decide_eq_true (List.all_eq_true.mp h C (List.contains_iff_mem.mp hC))
end
theorem sumL {α β γ : Type} {f : α → Option γ} {g : β → Option γ} {e : α} {r : γ} (h : Sum.elim f g (Sum.inl e) = some r) : f e = some r := h
theorem sumR {α β γ : Type} {f : α → Option γ} {g : β → Option γ} {e : β} {r : γ} (h : Sum.elim f g (Sum.inr e) = some r) : g e = some r := h
theorem bifO {α : Type} {c : Bool} {a b : Option α} {r : α} (h : (bif c then a else b) = some r) : (c = true ∧ a = some r) ∨ (c = false ∧ b = some r) := by
  cases c with
  | true => exact Or.inl ⟨rfl, h⟩
  | false => exact Or.inr ⟨rfl, h⟩
section
variable {K : PySem.W.Frag} {σ : L2.St} {G H W G0 H0 G2 H2 : Hp} {ls : List Addr} {cs : Cs} {ta tb : TA} {to te tu : TE} {ι α β γ : Type} {A : AR ι} {R : Rep α} {S : Rep β} {T : Rep γ} {D : Ends} {l C : Addr} {ns : List Str} {fl : α → List Pd}
/-- the promise of an __init__ that may raise -/
def PXI (K : PySem.W.Frag) (C : Addr) (A : AR ι) (ns : List Str) (fl : α → List Pd) (f : ι → Option (Xn ⊕ α)) : Sp := fun vs H Q E => ∃ G x ws i r, vs = .ref x :: ws ∧ Wd G H [(x, cI C [] [])] ∧ A.r G ws i ∧ f i = some r ∧
  (∀ e, r = .inl e → ∀ d H2 G2, Fr G H G2 H2 [x] → Ex G2 H2 → Xat G2 e d → E (.ref (He.ga K e.cls)) (some d) H2) ∧
  (∀ o, r = .inr o → ∀ H2 G2, Fr G H G2 H2 [x] → Wd G2 H2 [(x, cI C ns (fl o))] → Q .non H2)
theorem ex_make {f : ι → Option (Xn ⊕ α)} {ta : TA} {mi : Option ι} {Wx : L2.St → XK} (ha : EA ta σ G W A mi) : EX K (tMakeT C (PXI K C A ns fl f) Wx ta) σ G W (rObj C ns fl) (mi >>= f) (Wx σ) := fun z hz H e e' Q qx q => by
  obtain ⟨i, hi, hz⟩ := bindS hz
  refine ha i hi H e e' _ fun vs H1 G1 u1 r1 => ?_
  intro x dx nx ndx ne
  have w1 : Wd G1 (upd (upd H1 dx (.own x)) x (.ins C dx [])) [(x, cI C [] [])] := new_ins u1.gh nx ndx ne
  have hh : ∀ {G2 H2 : Hp}, Fr G1 (upd (upd H1 dx (.own x)) x (.ins C dx [])) G2 H2 [x] → Ex H1 H2 := fun fr a o h => by
    have na : a ≠ x := ne_of_none h nx
    have nd : a ≠ dx := ne_of_none h ndx
    exact fr.fr a o (by rw [upd_ne na, upd_ne nd]; exact h) fun z => na (List.mem_singleton.mp z)
  have nn : ∀ {G2 H2 : Hp}, Fr G1 (upd (upd H1 dx (.own x)) x (.ins C dx [])) G2 H2 [x] → ∀ a, H1 a ≠ none → G1 a = none → a ≠ x ∧ G2 a = none := fun fr a h1 h2 => by
    have na : a ≠ x := fun z => by subst z; exact h1 nx
    have nd : a ≠ dx := fun z => by subst z; exact h1 ndx
    exact ⟨na, fr.nw a (by rw [upd_ne na, upd_ne nd]; exact h1) h2⟩
  refine ⟨G1, x, vs, i, z, rfl, w1, r1, hz, fun xn hx d H2 G2 fr ee xa => ?_, fun o ho H2 G2 fr w2 => ⟨rfl, ?_⟩⟩
  · exact qx xn hx d H2 G2 (u1.trans ⟨fr.gg, ee, hh fr, fun a h1 h2 => (nn fr a h1 h2).2⟩) xa
  · obtain ⟨G3, k1, k2, k3, dx', fs, k4, k5⟩ := ob_freeze w2
    exact q o ho _ H2 G3 (u1.trans ⟨fr.gg.trans k1, k2, hh fr, fun a h1 h2 => k3 a (nn fr a h1 h2).1 (nn fr a h1 h2).2⟩) ⟨x, dx', fs, rfl, k4, k5⟩
theorem Xat.upE {ls : List Addr} {e : Xn} {d : Addr} (h : Xat G e d) (x : Ex G G2) : Xat G2 e d := h.mono x
/-- what does not raise -/
theorem ex_e {m : Option α} {Wx : XK} (h : E te σ G W R m) : EX K te σ G W R (m >>= fun x => some (.inr x)) Wx := fun r hr H e e' Q qx q => by
  obtain ⟨x, hx, hr⟩ := bindS hr
  cases hr
  exact h x hx H e e' Q fun v H2 G2 u r => q x rfl v H2 G2 u r
/-- an operator, the first operand may raise -/
theorem ex_op {r : R2} {f : α → β → Option γ} {ma : Option (Xn ⊕ α)} {mb : Option β} {Wx : XK} (hr : RR r R S T f) (ha : EX K te σ G W R ma Wx) (hb : E tu σ G W S mb) :
    EX K (tOp r te tu) σ G W T (ma >>= Sum.elim (fun e => some (.inl e)) fun x => mb >>= fun y => f x y >>= fun z => some (.inr z)) Wx := fun z hz H e e' Q qx q => by
  obtain ⟨x, hx, hz⟩ := bindS hz
  refine ha x hx H e e' _ (fun xn hxn d H2 G2 u xa => ?_) fun x' hx' v H1 G1 u1 r1 => ?_
  · subst hxn
    cases hz
    exact qx xn rfl d H2 G2 u xa
  · subst hx'
    have hz : (mb >>= fun y => f x' y >>= fun z => some (.inr z)) = some z := hz
    obtain ⟨y, hy, hz⟩ := bindS hz
    obtain ⟨z', hz', hz⟩ := bindS hz
    cases hz
    refine (hb.mono u1.gg (e'.trans u1.hh)) y hy H1 u1.gh (Ex.refl _) _ fun w H2 G2 u2 r2 => ?_
    exact hr v w x' y z' H2 G2 (R.mono u2.gg r1) r2 hz' u2.gh Q fun u H3 G3 u3 r3 => q z' rfl u H3 G3 ((u1.trans u2).trans u3) r3
/-- isinstance(e, c) of the caught exception -/
theorem e_isZ {a d : Addr} {e : Xn} {i : Nat} {c : V} {cv : Value} {b : Bool} (hs : σ[i]? = some (some (.ref a))) (hx : Xat G e d) (hC : ExcC K (He.ga K e.cls)) (hcv : ∀ u, RelV c u → u = cv) (hk : PySem.W.kitOne K (.ref (He.ga K e.cls)) cv = some b) :
    E (tCB (rIsZ K (.ref (He.ga K e.cls)) (some d) a) (tCons (tVar i) (tCons (tC c) tNil))) σ G W rB (some b) := fun z hz H ee e' Q q => by
  cases hz
  obtain ⟨fs, h1, _⟩ := hx
  exact ⟨.ref a, hs, _, _, c, cv, _, fs, rfl, rfl, hC, rfl, hcv, hk, ee d _ h1, q _ H G (Up.refl ee) rfl⟩
def xI (e : Xn) (f : Str) : Option Int := e.fs.lookup f >>= fun x => match x with | .int y => some y | _ => none
def xS (e : Xn) (f : Str) : Option Str := e.fs.lookup f >>= fun x => match x with | .str y => some y | _ => none
/-- e.f of the caught exception -/
theorem e_xz {a d : Addr} {e : Xn} {f : Str} {i : Nat} (hs : σ[i]? = some (some (.ref a))) (hx : Xat G e d) (hC : XfC K (He.ga K e.cls)) (hno : PySem.W.findIn K (.ref (He.ga K e.cls)) f = some none) : E (tXz K a (.ref (He.ga K e.cls)) (some d) f (tVar i)) σ G W rI (xI e f) := fun z hz H ee e' Q q => by
  obtain ⟨x, hx1, hz⟩ := bindS hz
  cases x with
  | str _ => cases hz
  | int y =>
    cases hz
    obtain ⟨fs, h1, h2⟩ := hx
    obtain ⟨v, h3, h4⟩ := h2 f _ hx1
    exact ⟨.ref a, hs, rfl, _, d, fs, v, rfl, hC, hno, rfl, ee d _ h1, h3, q v H G (Up.refl ee) h4⟩
theorem e_xzS {a d : Addr} {e : Xn} {f : Str} {i : Nat} (hs : σ[i]? = some (some (.ref a))) (hx : Xat G e d) (hC : XfC K (He.ga K e.cls)) (hno : PySem.W.findIn K (.ref (He.ga K e.cls)) f = some none) : E (tXz K a (.ref (He.ga K e.cls)) (some d) f (tVar i)) σ G W rS (xS e f) := fun z hz H ee e' Q q => by
  obtain ⟨x, hx1, hz⟩ := bindS hz
  cases x with
  | int _ => cases hz
  | str y =>
    cases hz
    obtain ⟨fs, h1, h2⟩ := hx
    obtain ⟨v, h3, h4⟩ := h2 f _ hx1
    exact ⟨.ref a, hs, rfl, _, d, fs, v, rfl, hC, hno, rfl, ee d _ h1, h3, q v H G (Up.refl ee) h4⟩
end
end Sim

/-! properties; == of further data; list + list; index; all, any -/
namespace Sim
open PySem PySem.Spec PyProof.Rows L2 Evl
def Fp (P : Program) (w : World) (K : PySem.W.Frag) (mg : Str → Option Value) (base : Heap) (CX : CXT) (k : Nat) (c m : Str) (ps : List Str) (sp : Sp) : Prop :=
  ∃ fd, FnOk P w K mg base CX k (prG K c m) fd ps sp ∧ Binds K fd ps []
theorem fp_mk {K : PySem.W.Frag} {mg : Str → Option Value} {P : Program} {w : World} {base : Heap} {CX : CXT} {k : Nat} {c m x qual : Str} {ps : List Str} {sp : Sp} {fd : FuncData} {params : Arguments} {body : List Stmt} {scope : Scope} (F : FunD K x qual params body scope [] [] (prG K c m) fd)
    (hb : ∀ (kV doc pm : Value) (an : Option Addr) (cdv ct : Value) (us : List Value), us.length = ps.length → bindArgs (PySem.W.fnOf x qual params body scope .none kV doc pm an cdv ct) ⟨us, []⟩ = pure (ps.zip us))
    (h : FnOk P w K mg base CX k (prG K c m) fd ps sp) : Fp P w K mg base CX k c m ps sp := ⟨fd, h, F.bindsN hb⟩
/-- a static method's def -/
def Fs (P : Program) (w : World) (K : PySem.W.Frag) (mg : Str → Option Value) (base : Heap) (CX : CXT) (k : Nat) (c m : Str) (ps : List Str) (sp : Sp) : Prop :=
  ∃ fd, FnOk P w K mg base CX k (wrG K "staticmethod" c m) fd ps sp ∧ Binds K fd ps []
theorem fs_mk {K : PySem.W.Frag} {mg : Str → Option Value} {P : Program} {w : World} {base : Heap} {CX : CXT} {k : Nat} {c m x qual : Str} {ps : List Str} {sp : Sp} {fd : FuncData} {params : Arguments} {body : List Stmt} {scope : Scope} (F : FunD K x qual params body scope [] [] (wrG K "staticmethod" c m) fd)
    (hb : ∀ (kV doc pm : Value) (an : Option Addr) (cdv ct : Value) (us : List Value), us.length = ps.length → bindArgs (PySem.W.fnOf x qual params body scope .none kV doc pm an cdv ct) ⟨us, []⟩ = pure (ps.zip us))
    (h : FnOk P w K mg base CX k (wrG K "staticmethod" c m) fd ps sp) : Fs P w K mg base CX k c m ps sp := ⟨fd, h, F.bindsN hb⟩
section
variable {K : PySem.W.Frag} {σ : L2.St} {G H W G' W' : Hp} {ta : TA} {te tu : TE} {ι α β γ : Type} {A : AR ι} {R : Rep α} {S : Rep β} {T : Rep γ}
theorem dtS : Dt rS PyData.str 0 := ⟨fun h => by rw [show _ = V.str _ from h]; exact .str _, fun _ => rfl, fun _ => Nat.le_refl _, fun x y => by simp [PyData.eqv]⟩
/-- never equal to None -/
class NoN (d : α → PyData) : Prop where
  ne : ∀ x, PyData.eqv .none (d x) = false ∧ PyData.eqv (d x) .none = false
instance : NoN PyData.int := ⟨fun x => ⟨by simp [PyData.eqv], by simp [PyData.eqv]⟩⟩
instance : NoN PyData.bool := ⟨fun x => ⟨by simp [PyData.eqv], by simp [PyData.eqv]⟩⟩
instance : NoN PyData.str := ⟨fun x => ⟨by simp [PyData.eqv], by simp [PyData.eqv]⟩⟩
instance {d : α → PyData} : NoN (fun xs : List α => PyData.list (xs.map d)) := ⟨fun x => ⟨by simp [PyData.eqv], by simp [PyData.eqv]⟩⟩
instance {d : α → PyData} : NoN (fun xs : List α => PyData.tuple (xs.map d)) := ⟨fun x => ⟨by simp [PyData.eqv], by simp [PyData.eqv]⟩⟩
instance {d : α → PyData} {f : β → PyData} : NoN (fun p : α × β => PyData.tuple [d p.1, f p.2]) := ⟨fun x => ⟨by simp [PyData.eqv], by simp [PyData.eqv]⟩⟩
def dO (d : α → PyData) : Option α → PyData
  | none => .none
  | some x => d x
theorem dtO {d : α → PyData} {n : Nat} (h : Dt R d n) [N : NoN d] : Dt (rO R) (dO d) n := by
  refine ⟨fun {K H v x} r => ?_, fun x => ?_, fun x => ?_, fun x y => ?_⟩
  · cases x with
    | none => have : v = .non := r; subst this; exact .non
    | some x => exact h.dp r
  · cases x with
    | none => rfl
    | some x => exact h.lay x
  · cases x with
    | none => exact Nat.zero_le _
    | some x => exact h.dep x
  · cases x with
    | none =>
      cases y with
      | none => simp [dO, PyData.eqv]
      | some y => simp [dO, (N.ne y).1]
    | some x =>
      cases y with
      | none => simp [dO, (N.ne x).2]
      | some y => simp [dO, h.eq x y]
/-- an operator that makes a new list -/
def RRL (r : R2) (R : Rep α) (S : Rep β) (T : Rep γ) (f : α → β → Option (List γ)) : Prop :=
  ∀ v w x y z H G, R.r G v x → S.r G w y → f x y = some z → Ex G H → ∀ Q : VK, (∀ p H2 G2, H p = none → Up G H G2 H2 → Wd G2 H2 [(p, cL T z)] → Q (.ref p) H2) → r v w H Q
theorem el_op {r : R2} {f : α → β → Option (List γ)} {ma : Option α} {mb : Option β} (hr : RRL r R S T f) (ha : E te σ G W R ma) (hb : E tu σ G W S mb) :
    EL (tOp r te tu) σ G W T (ma >>= fun x => mb >>= fun y => f x y) := fun z hz H e e' Q q => by
  obtain ⟨x, hx, hz⟩ := bindS hz
  obtain ⟨y, hy, hz⟩ := bindS hz
  refine ha x hx H e e' _ fun v H1 G1 u1 r1 => ?_
  refine (hb.mono u1.gg (e'.trans u1.hh)) y hy H1 u1.gh (Ex.refl _) _ fun w H2 G2 u2 r2 => ?_
  exact hr v w x y z H2 G2 (R.mono u2.gg r1) r2 hz u2.gh Q fun p H3 G3 hp u3 w3 => q p H3 G3 (fresh_back (u1.hh.trans u2.hh) hp) ((u1.trans u2).trans u3) w3
def catM (xs ys : List α) : Option (List α) := bif decide (xs.length + ys.length < 100000) then some (xs ++ ys) else none
theorem rrl_cat : RRL rCat (rL R) (rL R) R (fun xs ys => catM xs ys) := fun v w xs ys z H G hv hw hz e Q q => by
  obtain ⟨a, vs, rfl, h2, h3⟩ := hv
  obtain ⟨b, ws, rfl, k2, k3⟩ := hw
  have hz : (bif decide (xs.length + ys.length < 100000) then some (xs ++ ys) else none) = some z := hz
  cases hl : decide (xs.length + ys.length < 100000) with
  | false => rw [hl] at hz; cases hz
  | true =>
    rw [hl] at hz
    cases hz
    exact ⟨a, b, vs, ws, rfl, rfl, e a _ h2, e b _ k2, by rw [h3.length, k3.length]; exact sz_of (Nat.le_of_lt (of_decide_eq_true hl)), fun p hp => q p _ G hp (up_new e hp) (wd_new e hp (pr_app h3 k3))⟩
/-- a method of a built-in type that changes nothing -/
def RBM (rr : V → List V → Hp → VK → Prop) (R : Rep α) (A : AR ι) (T : Rep γ) (f : α → ι → Option γ) : Prop :=
  ∀ v vs x i z H G, R.r G v x → A.r G vs i → f x i = some z → Ex G H → ∀ Q : VK, (∀ u H2 G2, Up G H G2 H2 → T.r G2 u z → Q u H2) → rr v vs H Q
theorem e_bmL {rr : V → List V → Hp → VK → Prop} {f : List α → ι → Option γ} {m : Option (List α)} {mi : Option ι} (hr : RBM rr (rL R) A T f) (h : E te σ G W (rL R) m) (ha : EA ta σ G W A mi) : E (tBM K "list" rr te ta) σ G W T (m >>= fun x => mi >>= fun i => f x i) := fun z hz H e e' Q q => by
  obtain ⟨x, hx, hz⟩ := bindS hz
  obtain ⟨i, hi, hz⟩ := bindS hz
  refine h x hx H e e' _ fun v H1 G1 u1 r1 => ?_
  refine ⟨?_, (ha.mono u1.gg (e'.trans u1.hh)) i hi H1 u1.gh (Ex.refl _) _ fun vs H2 G2 u2 r2 => ?_⟩
  · obtain ⟨a, us, rfl, h2, _⟩ := r1
    exact .inl ⟨rfl, us, Or.inl (Or.inl (u1.gh a _ h2))⟩
  · exact hr v vs x i z H2 G2 ((rL R).mono u2.gg r1) r2 hz u2.gh Q fun u H3 G3 u3 r3 => q u H3 G3 ((u1.trans u2).trans u3) r3
def idxM (eq : α → α → Bool) (xs : List α) (y : α) : Option Int := (xs.findIdx? fun z => eq z y) >>= fun j => some (j : Int)
theorem idx_ok {eq : α → α → Bool} : ∀ {xs : List α} {y : α} {j : Nat}, (xs.findIdx? fun z => eq z y) = some j → ∃ z, xs[j]? = some z ∧ eq z y = true ∧ ∀ m z', m < j → xs[m]? = some z' → eq z' y = false := fun {xs y j} h => by
  obtain ⟨h1, h2, h3⟩ := List.findIdx?_eq_some_iff_getElem.mp h
  refine ⟨xs[j], List.getElem?_eq_getElem h1, h2, fun m z' hm hz => ?_⟩
  obtain ⟨hl, e⟩ := List.getElem?_eq_some_iff.mp hz
  subst e
  have := h3 m hm
  simpa using this
theorem rbm_index {eq : α → α → Bool} (f : FlR R eq) : RBM (rIndex K) (rL R) (aC R aN) rI (fun xs i => idxM eq xs i.1) := fun v vs xs i z H G hv ha hz e Q q => by
  obtain ⟨a, us, rfl, h2, h3⟩ := hv
  obtain ⟨y, _, rfl, r, rfl⟩ := ha
  obtain ⟨j, hj, hz⟩ := bindS hz
  cases hz
  obtain ⟨z, hz, he, hb⟩ := idx_ok hj
  obtain ⟨_, h5⟩ := pr_inV f r h3
  obtain ⟨w, hw, rw_⟩ := pr_get h3 hz
  refine ⟨a, us, y, j, w, rfl, rfl, Or.inl (Or.inl (e a _ h2)), f.fl r, h5, hw, by rw [f.eq rw_ r]; exact he, fun m z' hm hz' => ?_, q _ H G (Up.refl e) rfl⟩
  obtain ⟨x', hx', r'⟩ := pr_get' h3 hz'
  rw [f.eq r' r]; exact hb m x' hm hx'
theorem pr_bls {H : Hp} : ∀ {vs : List V} {xs : List Bool}, Paired (rB.r H) vs xs → vs = xs.map V.bl
  | _, _, .nil => rfl
  | _, _, .cons r t => by rw [show _ = V.bl _ from r, pr_bls t]; rfl
theorem rc_all : RC (rAll K) (aC (rL rB) aN) rB (fun i => some (i.1.all id)) := fun vs i z H G hv hz e Q q => by
  cases hz
  obtain ⟨v, ws, rfl, ⟨a, us, rfl, h2, h3⟩, rfl⟩ := hv
  have := pr_bls h3
  subst this
  exact ⟨a, i.1, rfl, Or.inl (Or.inl (e a _ h2)), q _ H G (Up.refl e) rfl⟩
theorem rc_any : RC (rAny K) (aC (rL rB) aN) rB (fun i => some (i.1.any id)) := fun vs i z H G hv hz e Q q => by
  cases hz
  obtain ⟨v, ws, rfl, ⟨a, us, rfl, h2, h3⟩, rfl⟩ := hv
  have := pr_bls h3
  subst this
  exact ⟨a, i.1, rfl, Or.inl (Or.inl (e a _ h2)), q _ H G (Up.refl e) rfl⟩
theorem e_methB {l C : Addr} {ns : List Str} {fl : α → List Pd} {to : TE} {κ : Type} {B : Rep κ} {m : Option α} {mi : Option ι} {me : Str} {ad : α × ι → Addr} {f : List κ → α × ι → Option γ} {ys : List κ} {X : XK} (h : E to σ G W (rObj C ns fl) m) (ha : EA ta σ G W A mi) (L : Lent G W l B ys) (hi : ns.contains me = false) (hl : ∀ o i, mi = some i → ad (o, i) = l) :
    E (tMeth C me (PB (aC (rObj C ns fl) A) ad B T f) [] X to ta) σ G W T (m >>= fun o => mi >>= fun i => f ys (o, i)) := fun z hz H e e' Q q => by
  obtain ⟨x, hx, hz⟩ := bindS hz
  obtain ⟨y, hy, hz⟩ := bindS hz
  refine h x hx H e e' _ fun v H1 G1 u r => ?_
  obtain ⟨a, dx, fs, rfl, h2, h3⟩ := r
  refine ⟨a, dx, fs, rfl, u.gh a _ h2, look_no h3.1 hi, ?_⟩
  refine (ha.mono u.gg (e'.trans u.hh)) y hy H1 u.gh (Ex.refl _) _ fun vs H3 G3 u3 r3 => ?_
  rw [List.append_nil]
  have := hl x y hy
  subst this
  exact ⟨G3, (x, y), ys, z, u3.gh, ⟨.ref a, vs, rfl, ⟨a, dx, fs, rfl, u3.gg a _ h2, h3.mono u3.gg⟩, r3⟩, L.up e' (u.trans u3), hz, fun v H4 G4 u4 r4 => q v H4 G4 ((u.trans u3).trans u4) r4⟩
end
end Sim

/-! operators of own classes: ==, len, in, binary and unary ones -/
namespace L2
open PySem PySem.Spec PyProof.Rows
section
variable {X : Cx} {CX : CXT} {k : Nat} {f C : Addr} {fd : FuncData} {ps : List Str} {sp : Sp} {pins : List (Addr × Obj)} {σ : St} {H : Hp} {s : Shared} {ta tb : TE}
theorem rel_ni {v : V} {u : Value} (r : RelV v u) : u ≠ .notImplemented := by
  rintro rfl
  cases v <;> first | (cases r; done) | (obtain ⟨_, r⟩ := r; cases r)
/-- a special method runs -/
theorem run_sp {A : Around} {Q : VK} {us : List Value} {vs : List V} {E : XK} (F : FnOk X.prog X.w X.K X.mg X.base CX k f fd ps sp) (hr : Room k A) (hfr : A.frames = X.A.frames) (hb : Binds X.K fd ps []) (hx : PassesAt CX X σ E)
    (I : Inv X pins σ H s) (r : Vals vs us) (h : sp vs H Q E) : wpAny (model X.prog X.w) A (call (.ref f) us) (EP X pins σ Q) X.xe s := by
  have hl : us.length = ps.length := by rw [← r.length]; exact F.len _ _ _ _ h
  have b := hb s us I.kIn (by rw [List.append_nil]; exact hl)
  rw [List.append_nil] at b
  have e := I.env0
  have e0 : Env0 X.prog X.w X.K X.mg X.base A X.stack s H := ⟨by rw [hfr]; exact e.frames, e.mod, e.bs, e.bsz, e.funs, e.frf, e.hok, e.bare⟩
  refine wpAny_call (codeAny_mono (F.run A X.stack s H ⟨us, []⟩ us vs Q E hr e0 b r h) fun r s' hq => ?_)
  cases r with
  | error e => exact hx pins H s e s' I hq
  | ok fl =>
    cases fl with
    | ret u => exact I.after hq
    | next => exact False.elim hq
    | brk => exact False.elim hq
    | cont => exact False.elim hq
theorem passAt0 {E : XK} : PassesAt CX0 X σ E := fun _ _ _ _ _ _ h => h.elim
/-- what stands right of an own comparison: no instance of a subclass -/
def NFst (K : PySem.W.Frag) (C : Addr) (H : Hp) (y : V) : Prop := (∃ b dy gs, y = .ref b ∧ H b = some (.ins C dy gs)) ∨ ∃ t, TyX K H y t ∧ PySem.W.subIn K t (.ref C) = some false
theorem NFst.looks {y : V} {u : Value} (h : NFst X.K C H y) (I : Inv X pins σ H s) (ry : RelV y u) : ∃ tb, PySem.W.Looks (model X.prog X.w) s.heap (typeOf u) tb ∧ PySem.W.notFirst X.K C tb = true := by
  rcases h with ⟨b, dy, gs, rfl, hb⟩ | ⟨t, ty, hs⟩
  · cases ry
    obtain ⟨mB, J', _⟩ := ins_get I.hok hb
    obtain ⟨od', J', _⟩ := J'.look
    exact ⟨.ref C, J'.type, by simp [PySem.W.notFirst]⟩
  · obtain ⟨P, Z, hp, _⟩ := kit_of I ry ty
    exact ⟨t, Z.ty _ _ I.kIn hp, by simp [PySem.W.notFirst, hs]⟩
def rEqO (K : PySem.W.Frag) (C : Addr) (sp : Sp) : R2 := fun x y H Q => ∃ a dx fs, x = .ref a ∧ H a = some (.ins C dx fs) ∧ NFst K C H y ∧ sp [.ref a, y] H Q E0
theorem back_ok {v : Value} {Q : Value → Shared → Prop} {s' : Shared} (h : v ≠ .notImplemented) (q : Q v s') : PySem.W.CmpBack Q v s' := by
  cases v <;> first | exact absurd rfl h | exact q
theorem op_eqO (F : FnOk X.prog X.w X.K X.mg X.base CX0 k f fd ps sp) (hr : Room k X.A) (M : Meth X.K C "__eq__" f) (hb : Binds X.K fd ps []) : OpR X (compareOp .Eq) (rEqO X.K C sp) := by
  intro pins s σ H x y v u Q I rx ry h
  obtain ⟨a, dx, fs, rfl, ha, hn, q⟩ := h
  cases rx
  obtain ⟨mA, J, _⟩ := ins_get I.hok ha
  obtain ⟨od, J, _⟩ := J.look
  obtain ⟨tb, lk, nf⟩ := hn.looks I ry
  obtain ⟨m, hF⟩ := I.fr
  show wpAny (model X.prog X.w) X.A (richCompare .Eq (.ref a) u) (EP X pins σ Q) X.xe s
  refine PySem.W.cmp_K (op := .Eq) (tb := tb) hr.units0 hF I.ok.mod.kin J lk nf M.at_ M.fn ?_
  refine wpAny_mono (run_sp (us := [.ref a, u]) (vs := [.ref a, y]) F hr rfl hb passAt0 I (.cons rfl (.cons ry .nil)) q) (fun v s' hv => ?_) fun _ _ z => z
  obtain ⟨z, H', I', rz, qz⟩ := hv
  exact back_ok (rel_ni rz) ⟨z, H', I', rz, qz⟩
def rLenO (C : Addr) (sp : Sp) : List V → Hp → VK → Prop := fun xs H Q => ∃ a dx fs, xs = [.ref a] ∧ H a = some (.ins C dx fs) ∧ sp [.ref a] H (fun v H' => ∃ n : Int, v = .int n ∧ 0 ≤ n ∧ n < 2 ^ 63 ∧ Q v H') E0
theorem call_lenO (F : FnOk X.prog X.w X.K X.mg X.base CX0 k f fd ps sp) (hr : Room (k + 1) X.A) (M : Meth X.K C "__len__" f) (hb : Binds X.K fd ps []) : CallR X (.builtin "len") (rLenO C sp) := by
  intro pins s σ H xs us Q I r h
  obtain ⟨a, dx, fs, rfl, ha, q⟩ := h
  cases r with
  | cons rx rr =>
    cases rr
    cases rx
    obtain ⟨mA, J, _⟩ := ins_get I.hok ha
    obtain ⟨od, J, _⟩ := J.look
    obtain ⟨m, hF⟩ := I.fr
    refine PySem.W.len_K hF I.ok.mod.kin J M.at_ M.fn ?_
    refine wpAny_mono (run_sp (us := [.ref a]) (vs := [.ref a]) F hr.in1 rfl hb passAt0 I (.cons rfl .nil) q) (fun v s' hv => ?_) fun _ _ z => z
    obtain ⟨z, H', I', rz, n, rfl, h0, h1, qz⟩ := hv
    obtain ⟨t, rfl⟩ : ∃ t, v = .int n t := rz
    exact ⟨⟨h0, h1⟩, .int n, H', I'.tok _, ⟨_, rfl⟩, qz⟩
def rInO (C : Addr) (sp : Sp) (g : Bool → Bool) : R2 := fun x y H Q => ∃ a dx fs, y = .ref a ∧ H a = some (.ins C dx fs) ∧ sp [.ref a, x] H (fun v H' => ∃ b, v = .bl b ∧ Q (.bl (g b)) H') E0
theorem op_inO (F : FnOk X.prog X.w X.K X.mg X.base CX0 k f fd ps sp) (hr : Room k X.A) (M : Meth X.K C "__contains__" f) (hb : Binds X.K fd ps []) : OpR X (compareOp .In) (rInO C sp id) := by
  intro pins s σ H x y v u Q I rx ry h
  obtain ⟨a, dx, fs, rfl, ha, q⟩ := h
  cases ry
  obtain ⟨mA, J, _⟩ := ins_get I.hok ha
  obtain ⟨od, J, _⟩ := J.look
  obtain ⟨m, hF⟩ := I.fr
  refine PySem.W.in_K hF I.ok.mod.kin J M.at_ M.fn ?_
  refine wpAny_mono (run_sp (us := [.ref a, v]) (vs := [.ref a, x]) F hr rfl hb passAt0 I (.cons rfl (.cons rx .nil)) q) (fun v s' hv => ?_) fun _ _ z => z
  obtain ⟨z, H', I', rz, b, rfl, qz⟩ := hv
  cases rz
  exact wpAny_pure ⟨.bl b, H', I', rfl, qz⟩
theorem op_notInO (F : FnOk X.prog X.w X.K X.mg X.base CX0 k f fd ps sp) (hr : Room k X.A) (M : Meth X.K C "__contains__" f) (hb : Binds X.K fd ps []) : OpR X (compareOp .NotIn) (rInO C sp (!·)) := by
  intro pins s σ H x y v u Q I rx ry h
  obtain ⟨a, dx, fs, rfl, ha, q⟩ := h
  cases ry
  obtain ⟨mA, J, _⟩ := ins_get I.hok ha
  obtain ⟨od, J, _⟩ := J.look
  obtain ⟨m, hF⟩ := I.fr
  refine PySem.W.notIn_K hF I.ok.mod.kin J M.at_ M.fn ?_
  refine wpAny_mono (run_sp (us := [.ref a, v]) (vs := [.ref a, x]) F hr rfl hb passAt0 I (.cons rfl (.cons rx .nil)) q) (fun v s' hv => ?_) fun _ _ z => z
  obtain ⟨z, H', I', rz, b, rfl, qz⟩ := hv
  cases rz
  exact wpAny_pure ⟨.bl (!b), H', I', rfl, qz⟩
/-- a * b, a + b, a | b, a & b of an own class, what is raised wished for at the slots -/
def tOpX (C : Addr) (sp : Sp) (E : St → XK) (ta tb : TE) : TE := fun σ H Q => ta σ H fun x H1 => tb σ H1 fun y H2 => ∃ a dx fs b dy gs, x = .ref a ∧ H2 a = some (.ins C dx fs) ∧ y = .ref b ∧ H2 b = some (.ins C dy gs) ∧ sp [.ref a, .ref b] H2 Q (E σ)
theorem pe_opX {op : Operator} {E : St → XK} {a b : Expr} {pos : Pos} {nm : Str} (hn : nm = PySem.dunder op.info.2) (F : FnOk X.prog X.w X.K X.mg X.base CX k f fd ps sp) (hr : Room k X.A) (M : Meth X.K C nm f) (hsf : PySem.W.selfFirst X.K C = true) (hb : Binds X.K fd ps []) (hx : ∀ σ, PassesAt CX X σ (E σ))
    (pa : PE X a ta) (pb : PE X b tb) : PE X (.BinOp a op b pos) (tOpX C sp E ta tb) := by
  subst hn
  refine ⟨fun pins s σ H Q I h => ?_⟩
  refine wpAny_BinOp (binT (R := fun x y H2 => ∃ a dx fs b dy gs, x = .ref a ∧ H2 a = some (.ins C dx fs) ∧ y = .ref b ∧ H2 b = some (.ins C dy gs) ∧ sp [.ref a, .ref b] H2 Q (E σ)) pa pb I h fun v u s2 x y H2 I2 rx ry q => ?_)
  obtain ⟨a, dx, fs, b, dy, gs, rfl, ha, rfl, hb', q⟩ := q
  cases rx
  cases ry
  obtain ⟨mA, J, _⟩ := ins_get I2.hok ha
  obtain ⟨od, J, _⟩ := J.look
  obtain ⟨mB, J', _⟩ := ins_get I2.hok hb'
  obtain ⟨od', J', _⟩ := J'.look
  obtain ⟨m, hF⟩ := I2.fr
  refine PySem.W.binop_K hF I2.ok.mod.kin J J'.type hsf M.at_ M.fn ?_
  refine wpAny_mono (run_sp (us := [.ref a, .ref b]) (vs := [.ref a, .ref b]) F hr rfl hb (hx σ) I2 (.cons rfl (.cons rfl .nil)) q) (fun v s' hv => ?_) fun _ _ z => z
  obtain ⟨z, H', I', rz, qz⟩ := hv
  exact back_ok (rel_ni rz) ⟨z, H', I', rz, qz⟩
/-- ~a of an own class -/
def tUnX (C : Addr) (sp : Sp) (E : St → XK) (ta : TE) : TE := fun σ H Q => ta σ H fun x H1 => ∃ a dx fs, x = .ref a ∧ H1 a = some (.ins C dx fs) ∧ sp [.ref a] H1 Q (E σ)
theorem pe_invX {E : St → XK} {a : Expr} {pos : Pos} (F : FnOk X.prog X.w X.K X.mg X.base CX k f fd ps sp) (hr : Room k X.A) (M : Meth X.K C "__invert__" f) (hb : Binds X.K fd ps []) (hx : ∀ σ, PassesAt CX X σ (E σ))
    (pa : PE X a ta) : PE X (.UnaryOp .Invert a pos) (tUnX C sp E ta) := by
  refine ⟨fun pins s σ H Q I h => ?_⟩
  refine UnaryOp_ (thn (pa.run pins s σ H _ I h) fun v s1 ⟨x, H1, I1, r1, a, dx, fs, ex, ha, q⟩ => ?_)
  subst ex
  cases r1
  obtain ⟨mA, J, _⟩ := ins_get I1.hok ha
  obtain ⟨od, J, _⟩ := J.look
  unfold unaryOp
  refine wpAny_holding ?_
  dsimp only
  refine (congrArg (fun z => wpAny (model X.prog X.w) X.A z (EP X pins σ Q) X.xe s1) (if_neg (show ¬ ((UnaryOp.Invert == UnaryOp.Not) = true) by decide))).mpr ?_
  refine wpAny_bind (m := callSpecial? (.ref a) _ []) (PySem.W.special_fn I1.kIn J M.at_ (beq_iff_eq.mp M.fn) ?_)
  refine wpAny_mono (run_sp (us := [.ref a]) (vs := [.ref a]) F hr rfl hb (hx σ) I1 (.cons rfl .nil) q) (fun v s' hv => ?_) fun _ _ z => z
  obtain ⟨z, H', I', rz, qz⟩ := hv
  exact wpAny_pure ⟨z, H', I', rz, qz⟩
end
end L2

/-! operators of own classes: what they read as -/
namespace Sim
open PySem PySem.Spec PyProof.Rows L2 Evl
section
variable {K : PySem.W.Frag} {σ : L2.St} {G H W : Hp} {ta tb te : TE} {tA : TA} {α β γ ι : Type} {R : Rep α} {S : Rep β} {T : Rep γ} {A : AR ι} {C : Addr} {ns : List Str} {fl : α → List Pd}
/-- never an instance of a subclass of C -/
def Rep.NS (S : Rep β) (K : PySem.W.Frag) (C : Addr) : Prop := ∀ {H : Hp} {v : V} {y : β}, S.r H v y → NFst K C H v
theorem nsObj : (rObj C ns fl).NS K C := fun ⟨a, dx, fs, h, h2, _⟩ => .inl ⟨a, dx, fs, h, h2⟩
theorem nsTy {n : String} (k : KTy S n) (h : PySem.W.subIn K (.type n) (.ref C) = some false) : S.NS K C := fun r => .inr ⟨_, k r, h⟩
theorem rr_eqO {f : α → β → Option Bool} (hS : S.NS K C) : RR (rEqO K C (PF (aC (rObj C ns fl) (aC S aN)) rB fun i => f i.1 i.2.1)) (rObj C ns fl) S rB f := fun v w x y z H G hv hw hz e Q q => by
  obtain ⟨a, dx, fs, rfl, h2, h3⟩ := hv
  exact ⟨a, dx, fs, rfl, e a _ h2, hS (S.mono e hw), G, (x, y, ()), z, e, ⟨_, _, rfl, ⟨a, dx, fs, rfl, h2, h3⟩, _, _, rfl, hw, rfl⟩, hz, fun u H2 G2 up r => q u H2 G2 up r⟩
def lenM (n : Int) : Option Int := bif decide (0 ≤ n ∧ n < 2 ^ 63) then some n else none
theorem rc_lenO {f : α → Option Int} : RC (rLenO C (PF (aC (rObj C ns fl) aN) rI fun i => f i.1)) (aC (rObj C ns fl) aN) rI (fun i => f i.1 >>= lenM) := fun vs i z H G hv hz e Q q => by
  obtain ⟨n, hn, hz⟩ := bindS hz
  unfold lenM at hz
  cases hb : decide (0 ≤ n ∧ n < 2 ^ 63) with
  | false => rw [hb] at hz; cases hz
  | true =>
    rw [hb] at hz
    cases hz
    obtain ⟨b1, b2⟩ := of_decide_eq_true hb
    obtain ⟨v, ws, rfl, ⟨a, dx, fs, rfl, h2, h3⟩, rfl⟩ := hv
    exact ⟨a, dx, fs, rfl, e a _ h2, G, (i.1, ()), _, e, ⟨_, _, rfl, ⟨a, dx, fs, rfl, h2, h3⟩, rfl⟩, hn, fun u H2 G2 up r => ⟨_, r, b1, b2, q u H2 G2 up r⟩⟩
theorem rr_inO {f : α → β → Option Bool} {g : Bool → Bool} : RR (rInO C (PF (aC (rObj C ns fl) (aC S aN)) rB fun i => f i.1 i.2.1) g) S (rObj C ns fl) rB (fun y x => f x y >>= fun b => some (g b)) := fun v w y x z H G hv hw hz e Q q => by
  obtain ⟨b, hb, hz⟩ := bindS hz
  cases hz
  obtain ⟨a, dx, fs, rfl, h2, h3⟩ := hw
  exact ⟨a, dx, fs, rfl, e a _ h2, G, (x, y, ()), b, e, ⟨_, _, rfl, ⟨a, dx, fs, rfl, h2, h3⟩, _, _, rfl, hv, rfl⟩, hb, fun u H2 G2 up r => by cases r; exact ⟨b, rfl, q _ H2 G2 up rfl⟩⟩
theorem ex_opX {f : α → α → Option (Xn ⊕ γ)} {ma mb : Option α} {Wx : L2.St → XK} (ha : E ta σ G W (rObj C ns fl) ma) (hb : E tb σ G W (rObj C ns fl) mb) :
    EX K (tOpX C (PX K (aC (rObj C ns fl) (aC (rObj C ns fl) aN)) T fun i => f i.1 i.2.1) Wx ta tb) σ G W T (ma >>= fun x => mb >>= fun y => f x y) (Wx σ) := fun z hz H e e' Q qx q => by
  obtain ⟨x, hx, hz⟩ := bindS hz
  obtain ⟨y, hy, hz⟩ := bindS hz
  refine ha x hx H e e' _ fun v H1 G1 u1 r1 => ?_
  refine (hb.mono u1.gg (e'.trans u1.hh)) y hy H1 u1.gh (Ex.refl _) _ fun w H2 G2 u2 r2 => ?_
  obtain ⟨a, dx, fs, rfl, h2, h3⟩ := (rObj C ns fl).mono u2.gg r1
  obtain ⟨b, dy, gs, rfl, k2, k3⟩ := r2
  have u := u1.trans u2
  exact ⟨a, dx, fs, b, dy, gs, rfl, u2.gh a _ h2, rfl, u2.gh b _ k2, G2, (x, y, ()), z, u2.gh, ⟨_, _, rfl, ⟨a, dx, fs, rfl, h2, h3⟩, _, _, rfl, ⟨b, dy, gs, rfl, k2, k3⟩, rfl⟩, hz,
    fun e he d H4 G4 u4 r4 => qx e he d H4 G4 (u.trans u4) r4, fun o ho v H4 G4 u4 r4 => q o ho v H4 G4 (u.trans u4) r4⟩
theorem e_opX {f : α → α → Option γ} {ma mb : Option α} {Wx : L2.St → XK} (ha : E ta σ G W (rObj C ns fl) ma) (hb : E tb σ G W (rObj C ns fl) mb) :
    E (tOpX C (PF (aC (rObj C ns fl) (aC (rObj C ns fl) aN)) T fun i => f i.1 i.2.1) Wx ta tb) σ G W T (ma >>= fun x => mb >>= fun y => f x y) := fun z hz H e e' Q q => by
  obtain ⟨x, hx, hz⟩ := bindS hz
  obtain ⟨y, hy, hz⟩ := bindS hz
  refine ha x hx H e e' _ fun v H1 G1 u1 r1 => ?_
  refine (hb.mono u1.gg (e'.trans u1.hh)) y hy H1 u1.gh (Ex.refl _) _ fun w H2 G2 u2 r2 => ?_
  obtain ⟨a, dx, fs, rfl, h2, h3⟩ := (rObj C ns fl).mono u2.gg r1
  obtain ⟨b, dy, gs, rfl, k2, k3⟩ := r2
  have u := u1.trans u2
  exact ⟨a, dx, fs, b, dy, gs, rfl, u2.gh a _ h2, rfl, u2.gh b _ k2, G2, (x, y, ()), z, u2.gh, ⟨_, _, rfl, ⟨a, dx, fs, rfl, h2, h3⟩, _, _, rfl, ⟨b, dy, gs, rfl, k2, k3⟩, rfl⟩, hz, fun v H4 G4 u4 r4 => q v H4 G4 (u.trans u4) r4⟩
theorem e_unX {f : α → Option γ} {ma : Option α} {Wx : L2.St → XK} (ha : E ta σ G W (rObj C ns fl) ma) : E (tUnX C (PF (aC (rObj C ns fl) aN) T fun i => f i.1) Wx ta) σ G W T (ma >>= fun x => f x) := fun z hz H e e' Q q => by
  obtain ⟨x, hx, hz⟩ := bindS hz
  refine ha x hx H e e' _ fun v H1 G1 u1 r1 => ?_
  obtain ⟨a, dx, fs, rfl, h2, h3⟩ := r1
  exact ⟨a, dx, fs, rfl, u1.gh a _ h2, G1, (x, ()), z, u1.gh, ⟨_, _, rfl, ⟨a, dx, fs, rfl, h2, h3⟩, rfl⟩, hz, fun v H4 G4 u4 r4 => q v H4 G4 (u1.trans u4) r4⟩
/-- isinstance of an own class's instance -/
def tyiB (C : Str) (K : PySem.W.Frag) : Bool := decide (PySem.W.findIn K (.ref (He.ga K C)) "__class__" = some (some (.builtin "object.__class__"))) && (decide (PySem.W.specialIn K (.builtin "object.__class__") "__get__" = some (some (.builtin "getset_descriptor.__get__"))) &&
  (decide (PySem.W.takesIn K (.builtin "object.__class__") = some true) && decide (PySem.W.mroIn K (He.ga K C) (.type "object") = some true)))
theorem tyi_of {C : Str} {a dx : Addr} {fs : List (Str × V)} (h : tyiB C K = true) (cl : Cls K (He.ga K C)) (e : H a = some (.ins (He.ga K C) dx fs)) : TyOf K H (.ref a) (.ref (He.ga K C)) := by
  obtain ⟨h1, h⟩ := He.ba h
  obtain ⟨h2, h⟩ := He.ba h
  obtain ⟨h3, h4⟩ := He.ba h
  exact .ins e cl (of_decide_eq_true h1) (of_decide_eq_true h2) (of_decide_eq_true h3) (of_decide_eq_true h4)
theorem e_isiO {C D : Str} {ns : List Str} {fl : α → List Pd} {m : Option α} {b : Bool} (h : E te σ G W (rObj (He.ga K C) ns fl) m) (ht : tyiB C K = true) (cl : Cls K (He.ga K C)) (hk : PySem.W.kitOne K (.ref (He.ga K C)) (.ref (He.ga K D)) = some b) :
    E (tCB (rIsi K) (tCons te (tCons (tC (.ref (He.ga K D))) tNil))) σ G W rB (m >>= fun _ => some b) := fun z hz H e e' Q q => by
  obtain ⟨x, hx, hz⟩ := bindS hz
  cases hz
  refine h x hx H e e' _ fun v H1 G1 u r => ?_
  obtain ⟨a, dx, fs, rfl, h2, _⟩ := r
  exact ⟨.ref a, .ref (He.ga K D), .ref (He.ga K C), .ref (He.ga K D), _, rfl, .own _, .base (tyi_of ht cl (u.gh a _ h2)), hk, q _ H1 G1 u rfl⟩
/-- isinstance of other data: never -/
theorem e_isiN {D : Str} {m : Option β} {n : String} {b : Bool} (h : E te σ G W S m) (k : KTy S n) (hk : PySem.W.kitOne K (.type n) (.ref (He.ga K D)) = some b) :
    E (tCB (rIsi K) (tCons te (tCons (tC (.ref (He.ga K D))) tNil))) σ G W rB (m >>= fun _ => some b) := fun z hz H e e' Q q => by
  obtain ⟨x, hx, hz⟩ := bindS hz
  cases hz
  refine h x hx H e e' _ fun v H1 G1 u r => ?_
  exact ⟨v, .ref (He.ga K D), .type n, .ref (He.ga K D), _, rfl, .own _, k (S.mono u.gh r), hk, q _ H1 G1 u rfl⟩
def kitNB (n : String) (D : Str) (b : Bool) (K : PySem.W.Frag) : Bool := decide (PySem.W.kitOne K (.type n) (.ref (He.ga K D)) = some b)
theorem kitN_ok {n : String} {D : Str} {b : Bool} (h : kitNB n D b K = true) : PySem.W.kitOne K (.type n) (.ref (He.ga K D)) = some b := of_decide_eq_true h
def kiOB (C D : Str) (b : Bool) (K : PySem.W.Frag) : Bool := kiB C (.ref (He.ga K D)) b K
theorem ki_ok {C D : Str} {b : Bool} (h : kiOB C D b K = true) : PySem.W.kitOne K (.ref (He.ga K C)) (.ref (He.ga K D)) = some b := of_decide_eq_true h
def subNB (n : String) (D : Str) (K : PySem.W.Frag) : Bool := decide (PySem.W.subIn K (.type n) (.ref (He.ga K D)) = some false)
theorem subN_ok {n : String} {D : Str} (h : subNB n D K = true) : PySem.W.subIn K (.type n) (.ref (He.ga K D)) = some false := of_decide_eq_true h
def sfB (C : Str) (K : PySem.W.Frag) : Bool := PySem.W.selfFirst K (He.ga K C)
end
end Sim

/-! what is walked, told in general; comprehensions with two clauses -/
namespace Sim
open PySem L2 Evl
section
variable {K : PySem.W.Frag} {σ : L2.St} {G H W G' W' : Hp} {te tl : TE} {tt tt1 : TT} {α β γ δ : Type} {R : Rep α} {S : Rep β} {T : Rep γ} {wi wi1 : TI} {g g1 : TG}
/-- J walks xs, whatever happens above G1 -/
def Goes (J : It) (G1 : Hp) (R : Rep α) (xs : List α) : Prop :=
  ∀ i H, Ex G1 H → (i = xs.length → J.stop i H) ∧ ∀ x, xs[i]? = some x → J.go i H ∧ ∀ v H', J.yld i H v H' → H' = H ∧ R.r G1 v x
def Src (wi : TI) (σ : L2.St) (G W : Hp) (R : Rep α) (m : Option (List α)) : Prop :=
  ∀ xs, m = some xs → ∀ H, Ex G H → Ex W H → ∀ k : It → Hp → Prop, (∀ J H1 G1, Up G H G1 H1 → Goes J G1 R xs → k J H1) → wi σ H k
theorem src_list {m : Option (List α)} (h : E tl σ G W (rL R) m) : Src (iList K tl) σ G W R m := fun xs hx H e e' k q =>
  h xs hx H e e' _ fun v H1 G1 u r => by
    obtain ⟨a, us, rfl, h2, h3⟩ := r
    refine ⟨a, rfl, ⟨us, Or.inl (Or.inl (u.gh a _ h2))⟩, q _ H1 G1 u fun i H' e1 => ⟨fun hi => ?_, fun x hx => ?_⟩⟩
    · subst hi; exact ⟨us, Or.inl (Or.inl (e1 a _ h2)), by rw [h3.length]; exact Nat.le_refl _⟩
    · obtain ⟨v, hv, r⟩ := pr_get h3 hx
      refine ⟨⟨us, v, Or.inl (Or.inl (e1 a _ h2)), hv⟩, fun w H2 y => ?_⟩
      obtain ⟨rfl, y⟩ := y
      have := y us (Or.inl (Or.inl (e1 a _ h2)))
      rw [hv] at this
      cases this
      exact ⟨rfl, r⟩
theorem src_tup {m : Option (List α)} (h : E tl σ G W (rT R) m) : Src (iTup K tl) σ G W R m := fun xs hx H e e' k q =>
  h xs hx H e e' _ fun v H1 G1 u r => by
    obtain ⟨a, us, rfl, h2, h3⟩ := r
    refine ⟨a, rfl, ⟨us, Or.inl (Or.inl (u.gh a _ h2))⟩, q _ H1 G1 u fun i H' e1 => ⟨fun hi => ?_, fun x hx => ?_⟩⟩
    · subst hi; exact ⟨us, Or.inl (Or.inl (e1 a _ h2)), by rw [h3.length]; exact Nat.le_refl _⟩
    · obtain ⟨v, hv, r⟩ := pr_get h3 hx
      refine ⟨⟨us, v, Or.inl (Or.inl (e1 a _ h2)), hv⟩, fun w H2 y => ?_⟩
      obtain ⟨rfl, y⟩ := y
      have := y us (Or.inl (Or.inl (e1 a _ h2)))
      rw [hv] at this
      cases this
      exact ⟨rfl, r⟩
theorem goes_rng {lo hi : Int} {G1 : Hp} : Goes (Itr lo (hi - lo).toNat) G1 rI (rng lo hi) := fun i H' e1 => ⟨fun h => by rw [rng_len] at h; subst h; exact Nat.le_refl _, fun x hx => by
  have hl := (List.getElem?_eq_some_iff.mp hx).1
  rw [rng_len] at hl
  refine ⟨hl, fun v H2 y => ?_⟩
  obtain ⟨rfl, rfl⟩ := y
  have := rng_get hl
  rw [this] at hx
  cases hx
  exact ⟨rfl, rfl⟩⟩
theorem src_rng1 {ta : TA} {m : Option (Int × Unit)} (h : EA ta σ G W (aC rI aN) m) : Src (iRng1 ta) σ G W rI (m >>= fun n => rngM 0 n.1) := fun xs hx H e e' k q => by
  obtain ⟨n, hn, hx⟩ := bindS hx
  refine h n hn H e e' _ fun v H1 G1 u r => ?_
  obtain ⟨v1, ws, rfl, e1, rfl⟩ := r
  cases e1
  unfold rngM at hx
  split at hx
  · rename_i hb
    cases hx
    refine ⟨n.1, rfl, by omega, by omega, ?_⟩
    have := goes_rng (lo := 0) (hi := n.1) (G1 := G1)
    rw [Int.sub_zero] at this
    exact q _ H1 G1 u this
  · cases hx
theorem src_rng2 {ta : TA} {m : Option (Int × Int × Unit)} (h : EA ta σ G W (aC rI (aC rI aN)) m) : Src (iRng2 ta) σ G W rI (m >>= fun n => rngM n.1 n.2.1) := fun xs hx H e e' k q => by
  obtain ⟨n, hn, hx⟩ := bindS hx
  refine h n hn H e e' _ fun v H1 G1 u r => ?_
  obtain ⟨v1, ws, rfl, e1, v2, ws2, rfl, e2, rfl⟩ := r
  cases e1
  cases e2
  unfold rngM at hx
  split at hx
  · rename_i hb
    cases hx
    exact ⟨n.1, n.2.1, rfl, ⟨by omega, by omega, by omega, by omega⟩, q _ H1 G1 u goes_rng⟩
  · cases hx
/-- a target: how the slots stand behind -/
def Tgt (g : TG) (R : Rep α) (P : Hp → α → L2.St → L2.St → Prop) : Prop :=
  ∀ v x σ G H (Q : L2.St → Hp → Prop), Ex G H → R.r G v x → (∀ σ2, P G x σ σ2 → Q σ2 H) → g v σ H Q
def pN (R : Rep α) (j : Nat) : Hp → α → L2.St → L2.St → Prop := fun G x σ σ2 => ∃ v, R.r G v x ∧ σ2 = σ.set j (some v)
def pP (R : Rep α) (S : Rep β) (i j : Nat) : Hp → α × β → L2.St → L2.St → Prop := fun G x σ σ2 => ∃ v w, R.r G v x.1 ∧ S.r G w x.2 ∧ σ2 = (σ.set i (some v)).set j (some w)
theorem tg_name {j : Nat} : Tgt (gName j) R (pN R j) := fun v x σ G H Q _ r k => k _ ⟨v, r, rfl⟩
theorem tg_pair {i j : Nat} : Tgt (gTup K 2 (gCons (gName i) (gCons (gName j) gNil))) (rP R S) (pP R S i j) := fun v x σ G H Q e r k => g_pair r e fun y z h1 h2 => k _ ⟨y, z, h1, h2, rfl⟩
/-! ### [e2 for x in xs if f1 for y in g2 x if p2] -/
def lc2M (f1 : α → Option Bool) (g2 : α → Option (List β)) (p2 : α → β → Option Bool) (e2 : α → β → Option γ) : List α → Option (List γ)
  | [] => some []
  | x :: xs => f1 x >>= fun b => bif b then g2 x >>= fun ys => lcM (p2 x) (e2 x) ys >>= fun zs => lc2M f1 g2 p2 e2 xs >>= fun r => some (zs ++ r) else lc2M f1 g2 p2 e2 xs
def lc2S (f1 : α → Option Bool) (g2 : α → Option (List β)) (p2 : α → β → Option Bool) (e2 : α → β → Option γ) (xs : List α) : Option (List γ) := lc2M f1 g2 p2 e2 xs >>= fun zs => bif sz zs.length then some zs else none
theorem lc2S_ok {f1 : α → Option Bool} {g2 : α → Option (List β)} {p2 : α → β → Option Bool} {e2 : α → β → Option γ} {xs : List α} {zs : List γ} (h : lc2S f1 g2 p2 e2 xs = some zs) : sz zs.length = true ∧ lc2M f1 g2 p2 e2 xs = some zs := by
  obtain ⟨ys, h1, h2⟩ := bindS h
  cases e : sz ys.length with
  | true => rw [e] at h2; cases h2; exact ⟨e, h1⟩
  | false => rw [e] at h2; cases h2
structure Acc (G0 H0 : Hp) (T : Rep γ) (D : Addr) (G H : Hp) (acc : List V) (ys : List γ) : Prop where
  n : H0 D = none
  u : Up G0 H0 G H
  gd : G D = none
  hd : H D = some (.lst acc)
  pr : Paired (T.r G) acc ys
section
variable {G0 H0 : Hp} {D : Addr} {acc : List V} {ys zs : List γ}
theorem Acc.sc {H2 : Hp} (A : Acc G0 H0 T D G H acc ys) (e : Ex H H2) : Acc G0 H0 T D G H2 acc ys := ⟨A.n, A.u.trans (Up.same A.u.gh e), A.gd, e _ _ A.hd, A.pr⟩
theorem Acc.up {G2 H2 : Hp} (A : Acc G0 H0 T D G H acc ys) (u : Up G H G2 H2) : Acc G0 H0 T D G2 H2 acc ys :=
  ⟨A.n, A.u.trans u, u.nw D (by rw [A.hd]; simp) A.gd, u.hh _ _ A.hd, Paired.mapP A.pr fun _ _ => T.mono u.gg⟩
theorem Acc.add {v : V} {y : γ} (A : Acc G0 H0 T D G H acc ys) (r : T.r G v y) : Acc G0 H0 T D G (upd H D (.lst (acc ++ [v]))) (acc ++ [v]) (ys ++ [y]) := by
  refine ⟨A.n, ⟨A.u.gg, fun a o h => ?_, Ex.mut A.u.hh A.n, A.u.nw⟩, A.gd, upd_same, pr_app A.pr (.cons r .nil)⟩
  rw [upd_ne (fun z => by subst z; rw [A.gd] at h; cases h)]
  exact A.u.gh a o h
theorem Acc.start (e : Ex G0 H0) (hD : H0 D = none) : Acc G0 H0 T D G0 (upd H0 D (.lst [])) [] [] := ⟨hD, Up.same e (Ex.new hD), fresh_back e hD, upd_same, .nil⟩
theorem Acc.fin (A : Acc G0 H0 T D G H acc ys) : ∃ G, H0 D = none ∧ Up G0 H0 G H ∧ Wd G H [(D, cL T ys)] := by
  refine ⟨G, A.n, A.u, A.u.gh, fun c hc => ?_, List.nodup_cons.mpr ⟨List.not_mem_nil, List.nodup_nil⟩⟩
  cases List.mem_singleton.mp hc
  exact ⟨A.gd, _, A.hd, acc, rfl, A.pr⟩
end
theorem el_lc2 {vs vs1 : List Nat} {m : Option (List α)} {f1 : α → Option Bool} {g2 : α → Option (List β)} {p2 : α → β → Option Bool} {e2 : α → β → Option γ} {P : Hp → α → L2.St → L2.St → Prop} {P1 : Hp → β → L2.St → L2.St → Prop}
    (h : Src wi σ G W R m) (hg : Tgt g R P) (hw : ∀ x G' σ2, P G' x (wipe σ vs) σ2 → wipe σ2 vs = wipe σ vs)
    (ht : ∀ x σ2 G' W', Ex G G' → Ex W W' → Ex G' W' → P G' x (wipe σ vs) σ2 → ET tt σ2 W' (f1 x))
    (hi : ∀ x σ2 G' W', Ex G G' → Ex W W' → Ex G' W' → P G' x (wipe σ vs) σ2 → Src wi1 σ2 G' W' S (g2 x))
    (hg1 : Tgt g1 S P1) (hw1 : ∀ x y G' G'' σ2 σ3, P G' x (wipe σ vs) σ2 → P1 G'' y (wipe σ2 vs1) σ3 → wipe σ3 vs1 = wipe σ2 vs1)
    (ht1 : ∀ x y σ2 σ3 G' W', Ex G G' → Ex W W' → Ex G' W' → P G' x (wipe σ vs) σ2 → P1 G' y (wipe σ2 vs1) σ3 → ET tt1 σ3 W' (p2 x y))
    (he : ∀ x y σ2 σ3 G' W', Ex G G' → Ex W W' → Ex G' W' → P G' x (wipe σ vs) σ2 → P1 G' y (wipe σ2 vs1) σ3 → E te σ3 G' W' T (e2 x y))
    (mP : ∀ x σ1 σ2 G1 G2, Ex G1 G2 → P G1 x σ1 σ2 → P G2 x σ1 σ2) (mP1 : ∀ x σ1 σ2 G1 G2, Ex G1 G2 → P1 G1 x σ1 σ2 → P1 G2 x σ1 σ2) :
    EL (tLc2 wi g tt wi1 g1 tt1 te vs vs1) σ G W T (m >>= fun xs => lc2S f1 g2 p2 e2 xs) := fun zs hz H e e' Q q => by
  obtain ⟨xs, hx, hz⟩ := bindS hz
  obtain ⟨hs, hz⟩ := lc2S_ok hz
  refine h xs hx H e e' _ fun J H1 G1 u gs D hD => ?_
  have e1 : Ex W H1 := e'.trans u.hh
  refine ⟨fun i n H' => n = xs.length - i ∧ i ≤ xs.length ∧ ∃ G' acc ys rest, Acc G1 H1 T D G' H' acc ys ∧ lc2M f1 g2 p2 e2 (xs.drop i) = some rest ∧ ys ++ rest = zs, ⟨_, rfl, Nat.zero_le _, G1, [], [], zs, Acc.start u.gh hD, hz, rfl⟩, ?_⟩
  rintro i n H' ⟨rfl, hi', G', acc, ys, rest, A, hr, hzs⟩
  have gx := gs i H' (A.u.gg.trans A.u.gh)
  by_cases hlt : i < xs.length
  · obtain ⟨x, hx⟩ : ∃ x, xs[i]? = some x := ⟨_, List.getElem?_eq_getElem hlt⟩
    obtain ⟨go, yl⟩ := gx.2 x hx
    rw [drop_at hx] at hr
    obtain ⟨b, hb, hr⟩ := bindS hr
    refine .inr ⟨go, fun H' => ∃ G' acc ys rest, Acc G1 H1 T D G' H' acc ys ∧ lc2M f1 g2 p2 e2 (xs.drop (i + 1)) = some rest ∧ ys ++ rest = zs, fun H2 ⟨G2, a2, y2, r2, A2, k1, k2⟩ => ⟨xs.length - (i + 1), by omega, rfl, hlt, G2, a2, y2, r2, A2, k1, k2⟩, fun v H2 y => ?_⟩
    obtain ⟨rfl, r⟩ := yl v H2 y
    refine hg v x _ G' H2 _ A.u.gh (R.mono A.u.gg r) fun σ2 p => ⟨hw x G' σ2 p, ?_⟩
    refine ht x σ2 G' H2 (u.gg.trans A.u.gg) (e1.trans A.u.hh) A.u.gh p b hb H2 (Ex.refl _) _ fun H3 e3 => ?_
    have A := A.sc e3
    cases b with
    | false => exact ⟨G', acc, ys, rest, A, hr, hzs⟩
    | true =>
      obtain ⟨bs, hbs, hr⟩ := bindS hr
      obtain ⟨r1, hr1, hr⟩ := bindS hr
      obtain ⟨r2, hr2, hr⟩ := bindS hr
      cases hr
      show wi1 σ2 H3 _
      refine hi x σ2 G' H3 (u.gg.trans A.u.gg) (e1.trans A.u.hh) A.u.gh p bs hbs H3 A.u.gh (Ex.refl _) _ fun J1 H4 G4 u4 gs1 => ?_
      have A := A.up u4
      have p := mP _ _ _ _ _ u4.gg p
      refine ⟨fun j n H' => n = bs.length - j ∧ j ≤ bs.length ∧ ∃ G' acc ys rest, Ex G4 G' ∧ Acc G1 H1 T D G' H' acc ys ∧ lcM (p2 x) (e2 x) (bs.drop j) = some rest ∧ ys ++ (rest ++ r2) = zs, ⟨_, rfl, Nat.zero_le _, G4, acc, ys, r1, Ex.refl _, A, hr1, hzs⟩, ?_⟩
      rintro j n H5 ⟨rfl, hj, G5, acc5, ys5, rest5, x5, A5, hr5, hz5⟩
      have gx1 := gs1 j H5 (x5.trans A5.u.gh)
      have p := mP _ _ _ _ _ x5 p
      by_cases hlt1 : j < bs.length
      · obtain ⟨y, hy⟩ : ∃ y, bs[j]? = some y := ⟨_, List.getElem?_eq_getElem hlt1⟩
        obtain ⟨go1, yl1⟩ := gx1.2 y hy
        rw [drop_at hy] at hr5
        obtain ⟨b1, hb1, hr5⟩ := bindS hr5
        refine .inr ⟨go1, fun H' => ∃ G' acc ys rest, Ex G4 G' ∧ Acc G1 H1 T D G' H' acc ys ∧ lcM (p2 x) (e2 x) (bs.drop (j + 1)) = some rest ∧ ys ++ (rest ++ r2) = zs, fun H2 ⟨G2, a2, y2, q2, x2, A2, k1, k2⟩ => ⟨bs.length - (j + 1), by omega, rfl, hlt1, G2, a2, y2, q2, x2, A2, k1, k2⟩, fun v1 H6 yy => ?_⟩
        obtain ⟨rfl, r'⟩ := yl1 v1 H6 yy
        refine hg1 v1 y _ G5 H6 _ A5.u.gh (S.mono x5 r') fun σ3 p1 => ⟨hw1 x y G5 G5 σ2 σ3 p p1, ?_⟩
        refine ht1 x y σ2 σ3 G5 H6 (u.gg.trans A5.u.gg) (e1.trans A5.u.hh) A5.u.gh p p1 b1 hb1 H6 (Ex.refl _) _ fun H7 e7 => ?_
        have A5 := A5.sc e7
        cases b1 with
        | false => exact ⟨G5, acc5, ys5, rest5, x5, A5, hr5, hz5⟩
        | true =>
          obtain ⟨z, hz', hr5⟩ := bindS hr5
          obtain ⟨t, ht', hr5⟩ := bindS hr5
          cases hr5
          show te σ3 H7 _
          refine he x y σ2 σ3 G5 H7 (u.gg.trans A5.u.gg) (e1.trans A5.u.hh) A5.u.gh p p1 z hz' H7 A5.u.gh (Ex.refl _) _ fun w H8 G8 u8 r8 => ?_
          have A8 := A5.up u8
          refine ⟨acc5, A8.hd, ?_, G8, _, _, t, x5.trans u8.gg, A8.add r8, ht', by rw [← hz5]; simp⟩
          rw [A8.pr.length]
          refine sz_l (n := ys5.length) (decide_eq_true ?_)
          have h9 := of_decide_eq_true hs
          rw [← hz5] at h9
          simp only [List.length_append, List.length_cons] at h9
          omega
      · have ej : j = bs.length := by omega
        subst ej
        rw [List.drop_length] at hr5
        cases hr5
        exact .inl ⟨gx1.1 rfl, G5, acc5, ys5, r2, A5, hr2, hz5⟩
  · have ei : i = xs.length := by omega
    subst ei
    rw [List.drop_length] at hr
    cases hr
    rw [List.append_nil] at hzs
    subst hzs
    obtain ⟨G9, k1, k2, k3⟩ := A.fin
    exact .inl ⟨gx.1 rfl, q D H' G9 (fresh_back u.hh k1) (u.trans k2) k3⟩
theorem mpN {j : Nat} : ∀ x σ1 σ2 G1 G2, Ex G1 G2 → pN R j G1 x σ1 σ2 → pN R j G2 x σ1 σ2 := fun x σ1 σ2 G1 G2 e ⟨v, r, h⟩ => ⟨v, R.mono e r, h⟩
theorem mpP {i j : Nat} : ∀ x σ1 σ2 G1 G2, Ex G1 G2 → pP R S i j G1 x σ1 σ2 → pP R S i j G2 x σ1 σ2 := fun x σ1 σ2 G1 G2 e ⟨v, w, r, t, h⟩ => ⟨v, w, R.mono e r, S.mono e t, h⟩
/-! ### is True, is False; and where the first operand is known -/
end
/-- x is b, x a bool or None -/
def rIsBN (neg : Bool) : R2 := fun x y H Q => ∃ b : Bool, (x = .non ∨ ∃ a : Bool, x = .bl a) ∧ y = .bl b ∧ Q (.bl (if neg then !decide (x = .bl b) else decide (x = .bl b))) H
theorem op_isBN {X : Cx} : OpR X (compareOp .Is) (rIsBN false) := by
  intro pins s σ H x y v u Q I rx ry h
  obtain ⟨b, hx, rfl, q⟩ := h
  cases (show u = Value.bool b from ry)
  rcases hx with rfl | ⟨a, rfl⟩
  · cases (show v = Value.none from rx)
    exact wpAny_is_other rfl (fun z => by cases z) ⟨.bl false, H, I, rfl, by simpa using q⟩
  · cases (show v = Value.bool a from rx)
    by_cases e : a = b
    · subst e
      exact wpAny_is_self rfl ⟨.bl true, H, I, rfl, by simpa using q⟩
    · exact wpAny_is_other rfl (fun z => e (Value.bool.inj z)) ⟨.bl false, H, I, rfl, by simpa [e] using q⟩
theorem op_notBN {X : Cx} : OpR X (compareOp .IsNot) (rIsBN true) := by
  intro pins s σ H x y v u Q I rx ry h
  obtain ⟨b, hx, rfl, q⟩ := h
  cases (show u = Value.bool b from ry)
  rcases hx with rfl | ⟨a, rfl⟩
  · cases (show v = Value.none from rx)
    exact wpAny_isNot_other rfl (fun z => by cases z) ⟨.bl true, H, I, rfl, by simpa using q⟩
  · cases (show v = Value.bool a from rx)
    by_cases e : a = b
    · subst e
      exact wpAny_isNot_self rfl ⟨.bl false, H, I, rfl, by simpa using q⟩
    · exact wpAny_isNot_other rfl (fun z => e (Value.bool.inj z)) ⟨.bl true, H, I, rfl, by simpa [e] using q⟩
section
variable {K : PySem.W.Frag} {σ : L2.St} {G H W : Hp} {te ta : TE} {α : Type}
theorem rr_isBN {neg : Bool} : RR (rIsBN neg) rB rB rB (fun x y => some (if neg then !(x == y) else x == y)) := fun v w x y z H G hv hw hz e Q q => by
  cases hv; cases hw; cases hz
  refine ⟨y, .inr ⟨x, rfl⟩, rfl, q _ H G (Up.refl e) ?_⟩
  cases neg <;> cases x <;> cases y <;> rfl
theorem rr_isBNO {neg : Bool} : RR (rIsBN neg) (rO rB) rB rB (fun x y => some (if neg then !(x == some y) else x == some y)) := fun v w x y z H G hv hw hz e Q q => by
  cases hw; cases hz
  cases x with
  | none => cases (show v = .non from hv); exact ⟨y, .inl rfl, rfl, q _ H G (Up.refl e) (by cases neg <;> cases y <;> rfl)⟩
  | some x => cases (show v = .bl x from hv); exact ⟨y, .inr ⟨x, rfl⟩, rfl, q _ H G (Up.refl e) (by cases neg <;> cases x <;> cases y <;> rfl)⟩
/-- what is never evaluated -/
def tNo : TE := fun _ _ _ => False
theorem pe_no {X : Cx} {e : Expr} : PE X e tNo := ⟨fun _ _ _ _ _ _ h => h.elim⟩
theorem e_andF (h1 : E ta σ G W rB (some false)) : E (tAndV ta tNo) σ G W rB (some false) := fun z hz H e e' Q q => by
  cases hz
  exact h1 _ rfl H e e' _ fun v H1 G1 u1 r1 => ⟨false, r1, q _ H1 G1 u1 rfl⟩
theorem rc_lenP {β : Type} {R : Rep α} {S : Rep β} : RC (rLn K) (aC (rP R S) aN) rI (fun _ => some 2) := fun vs i z H G hv hz e Q q => by
  cases hz
  obtain ⟨v, ws, rfl, ⟨a, x, y, rfl, h2, h3, h4⟩, rfl⟩ := hv
  exact ⟨a, [x, y], rfl, Or.inr (Or.inl (Or.inl (e a _ h2))), q _ H G (Up.refl e) rfl⟩
end
end Sim

/-! static methods, class constants read off the class -/
namespace L2
open PySem PySem.Spec PyProof.Rows
section
variable {X : Cx} {CX : CXT} {k : Nat} {f C p : Addr} {fd : FuncData} {ps : List Str} {sp : Sp} {E : St → XK} {x m : Str} {pos apos : Pos} {e o : Expr} {es : List Expr} {ta : TE} {t : TA}
/-- C.m(e, ..), what is raised wished for at the slots -/
def tStatT (C : Addr) (sp : Sp) (E : St → XK) (to : TE) (t : TA) : TE := fun σ H Q => to σ H fun x H1 => x = .ref C ∧ t σ H1 fun vs H2 => sp vs H2 Q (E σ)
theorem pe_statT {pl : Sem Bool} (he : PE X o ta) (S : Sim.StatOf X.K C m p f) (kp : PySem.W.keepIn X.K (.ref f) = true) (F : FnOk X.prog X.w X.K X.mg X.base CX k f fd ps sp) (hr : Room k X.A) (hb : Binds X.K fd ps []) (hx : ∀ σ, PassesAt CX X σ (E σ)) (ha : PA X (e :: es) t)
    (hst : starEach (e :: es) X.env = (false, eval e X.env) :: starEach es X.env := by rfl) (hpl : (backTo pos (starEach es X.env)).any (·.1) = false := by rfl)
    (ht : eval (.Call (.Attribute o m apos) (e :: es) [] pos) X.env = (do
      let ov ← eval o X.env
      standAt apos.atName
      let (f, first) ← holding [ov] (getMethod ov m pl)
      callWith pos f first (backTo pos (starEach (e :: es) X.env)) (backToKw pos (keywordEach [] X.env))) := by rfl) :
    PE X (.Call (.Attribute o m apos) (e :: es) [] pos) (tStatT C sp E ta t) := by
  refine ⟨fun pins s σ H Q I h => ?_⟩
  refine PySem.W.methodCall_KW (pl := pl) (thn (he.run pins s σ H _ I h) fun u s1 ⟨x, H1, I1, rx, ex, q⟩ => ?_) ht
  subst ex
  obtain rfl : u = Value.ref C := rx
  obtain ⟨mm, hF⟩ := I1.fr
  obtain ⟨rest, rc⟩ := S.rc
  refine PySem.W.method_of_cls hF I1.ok.mod.kin S.ga (PySem.W.cls_sm hF I1.ok.mod.kin S.ty S.rd S.at_ rc S.hd ?_)
  have I1' := I1.tok (s1.toks + 1)
  refine PySem.W.callWith_K (first := []) (h₀ := X.base) I1.ok.mod.kin kp (thn (ha.run pos pins _ σ H1 _ I1' q) fun us s2 ⟨vs, H2, I2, r, q2⟩ => ⟨I2.kIn, ?_⟩) hst hpl
  exact run_fnS (us := us) (vs := vs) F hr hb (hx σ) I2 r q2
end
end L2
namespace Sim
open PySem PySem.Spec PyProof.Rows L2 Evl
section
variable {K : PySem.W.Frag} {σ : L2.St} {G H W : Hp} {ta : TA} {ι γ : Type} {A : AR ι} {T : Rep γ} {C : Addr}
theorem e_statT {f : ι → Option γ} {mi : Option ι} {Wx : L2.St → XK} (ha : EA ta σ G W A mi) : E (tStatT C (PF A T f) Wx (tC (.ref C)) ta) σ G W T (mi >>= f) := fun z hz H e e' Q q => by
  obtain ⟨i, hi, hz⟩ := bindS hz
  refine ⟨rfl, ha i hi H e e' _ fun vs H1 G1 u1 r1 => ?_⟩
  exact ⟨G1, i, z, u1.gh, r1, hz, fun v H2 G2 u2 r2 => q v H2 G2 (u1.trans u2) r2⟩
theorem ex_statT {f : ι → Option (Xn ⊕ γ)} {mi : Option ι} {Wx : L2.St → XK} (ha : EA ta σ G W A mi) : EX K (tStatT C (PX K A T f) Wx (tC (.ref C)) ta) σ G W T (mi >>= f) (Wx σ) := fun z hz H e e' Q qx q => by
  obtain ⟨i, hi, hz⟩ := bindS hz
  refine ⟨rfl, ha i hi H e e' _ fun vs H1 G1 u1 r1 => ?_⟩
  exact ⟨G1, i, z, u1.gh, r1, hz, fun x hx d H2 G2 u2 r2 => qx x hx d H2 G2 (u1.trans u2) r2, fun x hx v H2 G2 u2 r2 => q x hx v H2 G2 (u1.trans u2) r2⟩
def cvalB (C f : Str) (v : Int) (K : PySem.W.Frag) : Bool := PySem.W.readsIn K (He.ga K C) (.type "type") && (decide (PySem.W.specialIn K (.ref (He.ga K C)) "__getattribute__" = some (some (.builtin "type.__getattribute__"))) && (match PySem.W.findCls K (.ref (He.ga K C)) (.type "type") f with
  | some (.val (.int i _)) => i == v
  | _ => false))
theorem e_cval {C f : Str} {v : Int} (h : cvalB C f v K = true) : E (ClX.tCVal K (tC (.ref (He.ga K C))) f) σ G W rI (some v) := fun z hz H e e' Q q => by
  cases hz
  obtain ⟨h1, h⟩ := He.ba h
  obtain ⟨h2, h3⟩ := He.ba h
  cases q2 : PySem.W.findCls K (.ref (He.ga K C)) (.type "type") f with
  | none => rw [q2] at h3; cases h3
  | some d =>
    rw [q2] at h3
    cases d with
    | val u =>
      cases u with
      | int i t =>
        have : i = v := eq_of_beq h3
        subst this
        exact ⟨He.ga K C, .type "type", .int i, .int i t, rfl, ⟨h1, of_decide_eq_true h2⟩, ⟨q2, ⟨t, rfl⟩⟩, q _ H G (Up.refl e) rfl⟩
      | _ => cases h3
    | _ => cases h3
end
end Sim

/-! data of mixed kinds; a pair unpacked; one-clause comprehensions over anything -/
namespace Sim
open PySem L2 Evl
mutual
theorem Dp.up {K : PySem.W.Frag} {H H' : Hp} (e : Ex H H') : ∀ {v : V} {d : PyData}, Dp K H v d → Dp K H' v d
  | _, _, .non => .non
  | _, _, .bl b => .bl b
  | _, _, .int i => .int i
  | _, _, .str x => .str x
  | _, _, .lst h t => .lst (ex_l e h) (DpAll.up e t)
  | _, _, .tup h t => .tup (ex_t e h) (DpAll.up e t)
theorem DpAll.up {K : PySem.W.Frag} {H H' : Hp} (e : Ex H H') : ∀ {vs : List V} {ds : List PyData}, DpAll K H vs ds → DpAll K H' vs ds
  | _, _, .nil => .nil
  | _, _, .cons h t => .cons (Dp.up e h) (DpAll.up e t)
end
/-- any data without dicts -/
def rD (K : PySem.W.Frag) : Rep PyData := ⟨fun H v d => Dp K H v d ∧ d.plain = true ∧ d.depth ≤ 20, fun e ⟨h, r⟩ => ⟨Dp.up e h, r⟩⟩
section
variable {K : PySem.W.Frag} {σ : L2.St} {G H W G0 H0 : Hp} {ls : List Addr} {cs : Cs} {te : TE} {α β γ : Type} {R : Rep α} {S : Rep β} {T : Rep γ} {D : Ends} {tz : TS}
theorem e_toD {d : α → PyData} {n : Nat} {m : Option α} (h : E te σ G W R m) (hd : Dt R d n) (hn : n ≤ 20) : E te σ G W (rD K) (m >>= fun x => some (d x)) := fun z hz H e e' Q q => by
  obtain ⟨x, hx, hz⟩ := bindS hz
  cases hz
  exact h x hx H e e' Q fun v H2 G2 u r => q v H2 G2 u ⟨hd.dp r, hd.lay x, Nat.le_trans (hd.dep x) hn⟩
theorem e_nonD : E (tC .non) σ G W (rD K) (some .none) := fun z hz H e e' Q q => by
  cases hz
  exact q _ H G (Up.refl e) ⟨.non, rfl, Nat.zero_le _⟩
def toDM (d : PyData) : Option PyData := bif decide (d.depth ≤ 20) then some d else none
theorem pr_dpD {H : Hp} : ∀ {vs : List V} {xs : List PyData}, Paired ((rD K).r H) vs xs → DpAll K H vs xs ∧ PyData.plainAll xs = true
  | _, _, .nil => ⟨.nil, rfl⟩
  | _, _, .cons r t => by
    obtain ⟨h1, h2⟩ := pr_dpD t
    exact ⟨.cons r.1 h1, Bool.and_eq_true_iff.mpr ⟨r.2.1, h2⟩⟩
theorem e_toDL {m : Option (List PyData)} (h : E te σ G W (rL (rD K)) m) : E te σ G W (rD K) (m >>= fun xs => toDM (.list xs)) := fun z hz H e e' Q q => by
  obtain ⟨xs, hx, hz⟩ := bindS hz
  unfold toDM at hz
  cases hb : decide ((PyData.list xs).depth ≤ 20) with
  | false => rw [hb] at hz; cases hz
  | true =>
    rw [hb] at hz
    cases hz
    refine h xs hx H e e' Q fun v H2 G2 u r => ?_
    obtain ⟨a, vs, rfl, h2, h3⟩ := r
    obtain ⟨k1, k2⟩ := pr_dpD h3
    exact q _ H2 G2 u ⟨.lst (Or.inl (Or.inl h2)) k1, k2, of_decide_eq_true hb⟩
theorem e_toDT {m : Option (List PyData)} (h : E te σ G W (rT (rD K)) m) : E te σ G W (rD K) (m >>= fun xs => toDM (.tuple xs)) := fun z hz H e e' Q q => by
  obtain ⟨xs, hx, hz⟩ := bindS hz
  unfold toDM at hz
  cases hb : decide ((PyData.tuple xs).depth ≤ 20) with
  | false => rw [hb] at hz; cases hz
  | true =>
    rw [hb] at hz
    cases hz
    refine h xs hx H e e' Q fun v H2 G2 u r => ?_
    obtain ⟨a, vs, rfl, h2, h3⟩ := r
    obtain ⟨k1, k2⟩ := pr_dpD h3
    exact q _ H2 G2 u ⟨.tup (Or.inl (Or.inl h2)) k1, k2, of_decide_eq_true hb⟩
theorem rr_eqDD : RR (rEqP K) (rD K) (rD K) rB (fun x y => some (PyData.eqv x y)) := fun v w x y z H G hv hw hz e Q q => by
  cases hz
  obtain ⟨h1, h2, h3⟩ := (rD K).mono e hv
  obtain ⟨k1, k2, k3⟩ := (rD K).mono e hw
  exact ⟨x, y, h1, k1, ⟨h2, by omega⟩, ⟨k2, by omega⟩, q _ H G (Up.refl e) rfl⟩
theorem rr_neDD : RR (rNeP K) (rD K) (rD K) rB (fun x y => some (!PyData.eqv x y)) := fun v w x y z H G hv hw hz e Q q => by
  cases hz
  obtain ⟨h1, h2, h3⟩ := (rD K).mono e hv
  obtain ⟨k1, k2, k3⟩ := (rD K).mono e hw
  exact ⟨x, y, h1, k1, ⟨h2, by omega⟩, ⟨k2, by omega⟩, q _ H G (Up.refl e) rfl⟩
def noneD : PyData → Bool
  | .none => true
  | _ => false
theorem noneD_ok {v : V} {d : PyData} (h : Dp K H v d) : decide (v = .non) = noneD d := by
  cases h <;> first | rfl | simp [noneD]
theorem rr_isND : RR (fun x y H Q => y = .non ∧ Q (.bl (decide (x = .non))) H) (rD K) rU rB (fun d _ => some (noneD d)) := fun v w o y z H G hv hw hz e Q q => by
  cases hz
  exact ⟨hw, q _ H G (Up.refl e) (congrArg V.bl (noneD_ok hv.1))⟩
theorem rr_notND : RR (fun x y H Q => y = .non ∧ Q (.bl (!decide (x = .non))) H) (rD K) rU rB (fun d _ => some (!noneD d)) := fun v w o y z H G hv hw hz e Q q => by
  cases hz
  exact ⟨hw, q _ H G (Up.refl e) (congrArg (fun b => V.bl (!b)) (noneD_ok hv.1))⟩
theorem nnObjD : True := trivial
/-- a, b = e -/
theorem x_unpk {i j : Nat} {m : Option (α × β)} {x : α × β} (w : Wo G0 H0 ls G H cs) (h : E te σ G H (rP R S) m) (hm : m = some x) (k : ∀ u v H2 G2, Wo G0 H0 ls G2 H2 cs → Ex G G2 → R.r G2 u x.1 → S.r G2 v x.2 → tz D ((σ.set i (some u)).set j (some v)) H2) :
    tSeq (tAsg te (gTup K 2 (gCons (gName i) (gCons (gName j) gNil)))) tz D σ H :=
  c_e (Q := fun x H1 => gTup K 2 (gCons (gName i) (gCons (gName j) gNil)) x σ H1 (tz D)) w h hm fun v H2 G2 w2 e r => g_pair r w2.ex fun u v r1 r2 => k u v H2 G2 w2 e r1 r2
theorem o_unpk {i j : Nat} {v : V} {p : α × β} {Q : L2.St → Hp → Prop} (r : (rP R S).r G v p) (e : Ex G H) (k : ∀ x y, R.r G x p.1 → S.r G y p.2 → Q ((σ.set i (some x)).set j (some y)) H) : gTup K 2 (gCons (gName i) (gCons (gName j) gNil)) v σ H Q := g_pair r e k
theorem x_asgO {g : TG} (h : te σ H fun v H1 => g v σ H1 (tz D)) : tSeq (tAsg te g) tz D σ H := h
end
section
variable {K : PySem.W.Frag} {σ : L2.St} {G H W : Hp} {te : TE} {tt : TT} {α γ : Type} {R : Rep α} {T : Rep γ} {wi : TI} {g : TG}
/-- [e2 for x in xs if f1] -/
theorem el_lc1 {vs : List Nat} {m : Option (List α)} {f1 : α → Option Bool} {e2 : α → Option γ} {P : Hp → α → L2.St → L2.St → Prop}
    (h : Src wi σ G W R m) (hg : Tgt g R P) (hw : ∀ x G' σ2, P G' x (wipe σ vs) σ2 → wipe σ2 vs = wipe σ vs)
    (ht : ∀ x σ2 G' W', Ex G G' → Ex W W' → Ex G' W' → P G' x (wipe σ vs) σ2 → ET tt σ2 W' (f1 x))
    (he : ∀ x σ2 G' W', Ex G G' → Ex W W' → Ex G' W' → P G' x (wipe σ vs) σ2 → E te σ2 G' W' T (e2 x)) :
    EL (tLc wi g tt te vs) σ G W T (m >>= fun xs => lcS f1 e2 xs) := fun zs hz H e e' Q q => by
  obtain ⟨xs, hx, hz⟩ := bindS hz
  obtain ⟨hs, hz⟩ := lcS_ok hz
  refine h xs hx H e e' _ fun J H1 G1 u gs D hD => ?_
  have e1 : Ex W H1 := e'.trans u.hh
  refine ⟨fun i n H' => n = xs.length - i ∧ i ≤ xs.length ∧ ∃ G' acc ys rest, Acc G1 H1 T D G' H' acc ys ∧ lcM f1 e2 (xs.drop i) = some rest ∧ ys ++ rest = zs ∧ ys.length ≤ i, ⟨_, rfl, Nat.zero_le _, G1, [], [], zs, Acc.start u.gh hD, hz, rfl, Nat.le_refl _⟩, ?_⟩
  rintro i n H' ⟨rfl, hi', G', acc, ys, rest, A, hr, hzs, hyl⟩
  have gx := gs i H' (A.u.gg.trans A.u.gh)
  by_cases hlt : i < xs.length
  · obtain ⟨x, hx⟩ : ∃ x, xs[i]? = some x := ⟨_, List.getElem?_eq_getElem hlt⟩
    obtain ⟨go, yl⟩ := gx.2 x hx
    rw [drop_at hx] at hr
    obtain ⟨b, hb, hr⟩ := bindS hr
    refine .inr ⟨go, fun H' => ∃ G' acc ys rest, Acc G1 H1 T D G' H' acc ys ∧ lcM f1 e2 (xs.drop (i + 1)) = some rest ∧ ys ++ rest = zs ∧ ys.length ≤ i + 1, fun H2 ⟨G2, a2, y2, r2, A2, k1, k2, k3⟩ => ⟨xs.length - (i + 1), by omega, rfl, hlt, G2, a2, y2, r2, A2, k1, k2, k3⟩, fun v H2 y => ?_⟩
    obtain ⟨rfl, r⟩ := yl v H2 y
    refine hg v x _ G' H2 _ A.u.gh (R.mono A.u.gg r) fun σ2 p => ⟨hw x G' σ2 p, ?_⟩
    refine ht x σ2 G' H2 (u.gg.trans A.u.gg) (e1.trans A.u.hh) A.u.gh p b hb H2 (Ex.refl _) _ fun H3 e3 => ?_
    have A := A.sc e3
    cases b with
    | false => exact ⟨G', acc, ys, rest, A, hr, hzs, by omega⟩
    | true =>
      obtain ⟨z, hz', hr⟩ := bindS hr
      obtain ⟨t, ht', hr⟩ := bindS hr
      cases hr
      show te σ2 H3 _
      refine he x σ2 G' H3 (u.gg.trans A.u.gg) (e1.trans A.u.hh) A.u.gh p z hz' H3 A.u.gh (Ex.refl _) _ fun w H8 G8 u8 r8 => ?_
      have A8 := A.up u8
      refine ⟨acc, A8.hd, ?_, G8, _, _, t, A8.add r8, ht', by rw [← hzs]; simp, by simp; omega⟩
      rw [A8.pr.length]
      refine sz_l (n := ys.length) (decide_eq_true ?_)
      have h9 := of_decide_eq_true hs
      omega
  · have ei : i = xs.length := by omega
    subst ei
    rw [List.drop_length] at hr
    cases hr
    rw [List.append_nil] at hzs
    subst hzs
    obtain ⟨G9, k1, k2, k3⟩ := A.fin
    exact .inl ⟨gx.1 rfl, q D H' G9 (fresh_back u.hh k1) (u.trans k2) k3⟩
end
end Sim

/-! dicts -/
namespace Sim
open PySem L2 Evl
/-- a dict: its entries in order; kf: how a key stands -/
def rM {κ α : Type} (kf : κ → Key) (R : Rep α) : Rep (List (κ × α)) := ⟨fun H v kvs => ∃ a ws, v = .ref a ∧ H a = some (.dK ws) ∧ Paired (fun (p : Key × V) (q : κ × α) => p.1 = kf q.1 ∧ R.r H p.2 q.2) ws kvs,
  fun e ⟨a, ws, h1, h2, h3⟩ => ⟨a, ws, h1, e a _ h2, Paired.mapP h3 fun _ _ h => ⟨h.1, R.mono e h.2⟩⟩⟩
section
variable {K : PySem.W.Frag} {σ : L2.St} {G H W : Hp} {κ α β γ : Type} {kf : κ → Key} {R : Rep α}
theorem ktM : KTy (rM kf R) "dict" := fun ⟨a, ws, h, h2, _⟩ => by rw [h]; exact .base (.dK h2)
theorem e_dnew : E tDNewK σ G W (rM kf R) (some []) := fun z hz H e e' Q q => by
  cases hz
  intro p hp
  exact q _ (upd H p (.dK [])) (upd G p (.dK [])) (Up.lay e hp) ⟨p, [], rfl, upd_same, .nil⟩
/-- a < b < c -/
theorem e_chain {ta tb tc : TE} {r r' : R2} {S : Rep β} {T : Rep γ} {f : α → β → Option Bool} {g : β → γ → Option Bool} {ma : Option α} {mb : Option β} {mc : Option γ} (hr : RR r R S rB f) (hr' : RR r' S T rB g)
    (ha : E ta σ G W R ma) (hb : E tb σ G W S mb) (hc : E tc σ G W T mc) : E (tChain r r' ta tb tc) σ G W rB (ma >>= fun x => mb >>= fun y => andO (f x y) (mc >>= fun z => g y z)) := fun z hz H e e' Q q => by
  obtain ⟨x, hx, hz⟩ := bindS hz
  obtain ⟨y, hy, hz⟩ := bindS hz
  obtain ⟨b, hb', hz⟩ := bindS hz
  refine ha x hx H e e' _ fun v H1 G1 u1 r1 => ?_
  refine (hb.mono u1.gg (e'.trans u1.hh)) y hy H1 u1.gh (Ex.refl _) _ fun w H2 G2 u2 r2 => ?_
  refine hr v w x y b H2 G2 (R.mono u2.gg r1) r2 hb' u2.gh _ fun u H3 G3 u3 r3 => ?_
  cases r3
  refine ⟨b, rfl, ?_⟩
  cases b with
  | false =>
    have hz : some false = some z := hz
    cases hz
    rw [if_neg (by decide)]
    exact q _ H3 G3 ((u1.trans u2).trans u3) rfl
  | true =>
    rw [if_pos rfl]
    obtain ⟨c, hc', hz⟩ := bindS (show (mc >>= fun z => g y z) = some z from hz)
    refine (hc.mono ((u1.gg.trans u2.gg).trans u3.gg) (((e'.trans u1.hh).trans u2.hh).trans u3.hh)) c hc' H3 u3.gh (Ex.refl _) _ fun w4 H4 G4 u4 r4 => ?_
    exact hr' w w4 y c z H4 G4 (S.mono (u3.gg.trans u4.gg) r2) r4 hz u4.gh Q fun u5 H5 G5 up5 r5 => q u5 H5 G5 ((((u1.trans u2).trans u3).trans u4).trans up5) r5
end
end Sim

set_option maxHeartbeats 2000000
/-! own iterables: __iter__ gives iter(a list of theirs) -/
namespace L2
open PySem PySem.Spec PyProof.Rows ItX
/-- a def whose promise may speak of how many objects there are when it is called -/
structure FnOkS (P : Program) (w : World) (K : PySem.W.Frag) (mg : Str → Option Value) (base : Heap) (k : Nat) (f : Addr) (fd : FuncData) (ps : List Str) (sp : Nat → Sp) : Prop where
  len : ∀ n vs H Q E, sp n vs H Q E → vs.length = ps.length
  run : ∀ (A : Around) (outer : List Env) (s : Shared) (H : Hp) (args : Args) (us : List Value) (vs : List V) (Q : VK) (E : XK), Room k A → Env0 P w K mg base A outer s H → BindsTo s fd args (ps.zip us) → Vals vs us → sp s.heap.objs.size vs H Q E →
    codeAny (model P w) A (.call (.ref f) args) (CR CX0 outer P w H s Q E) s
theorem FunD.okS {P : Program} {w : World} {K : PySem.W.Frag} {mg : Str → Option Value} {base : Heap} {x qual : Str} {params : Arguments} {body : List Stmt} {scope : Scope} {dvs : List V} {kws : List (Str × V)} {f : Addr} {fd : FuncData}
    {N ps : List Str} {k : Nat} {sp : Nat → Sp} (F : FunD K x qual params body scope dvs kws f fd) (S : FnScope N ps scope) (len : ∀ n vs H Q E, sp n vs H Q E → vs.length = ps.length)
    (hbody : ∀ (cdv : Value) (A : Around) (outer : List Env) (s : Shared) (H : Hp) (vs : List V) (Q : VK) (E : XK), Room k (A.deeper (envOfC qual scope s.heap.objs.size f cdv)) → sp s.heap.objs.size vs H Q E →
      ∃ t, PSs (cxOf CX0 P w K mg base N qual scope f cdv A outer s H E) body t ∧ t { nx := fun _ H' => Q .non H', rt := Q } (start N vs) H) : FnOkS P w K mg base (k + 1) f fd ps sp := by
  obtain ⟨oc, od, dV, kV, doc, pm, an, cdv, ct, osl, rfl, lk, hcd, _, _⟩ := F.ex
  refine ⟨len, fun A outer s H args us vs Q E hr e0 hb r hsp => ?_⟩
  have hl := len _ _ _ _ _ hsp
  have KX : K.In s.heap := e0.mod.kin.keeps fun b o e => (e0.bs b o e).1
  have lim : s.heap.NoLimit := e0.mod.nolimit.keeps fun b o e => (e0.bs b o e).1
  have hkind : ∀ y ∈ ps.zip us, scope.names.lookup y.1 = some .local ∨ (scope.names.lookup y.1 = some .cell ∧ ((cellsFrom (s.heap.objs.size + 1) scope.names []).lookup y.1).isSome = true) := fun ⟨n, v⟩ hy => by
    rcases S.par n (List.of_mem_zip hy).1 with q | q
    · exact .inl q
    · exact .inr ⟨q, PySem.W.cellsFrom_some _ _ _ (.inl q)⟩
  refine codeAny_call_function hr.depth (KX _ _ lk) rfl S.co S.gen rfl (PySem.W.codeRec_of KX hcd) (hb _ _ _ _ ?_)
  refine wpAny_newFunctionEnv_cells S.kind hkind fun env he s1 x => ?_
  subst he
  refine ⟨lim.keeps x.toInCall.keep, codeAny_func ?_⟩
  obtain ⟨t, ht, hq⟩ := hbody cdv A outer s H vs Q E (hr.deeper _) hsp
  have I : Inv (cxOf CX0 P w K mg base N qual scope f cdv A outer s H E) [] (start N vs) H s1 := inv_start S hr.hd e0 hl r x
  refine wpAny_mono (ht.run [] s1 (start N vs) H _ I hq) (fun fl s' hs => ?_) fun e s' hs => hs
  have fin : ∀ {σ' : St} {H' : Hp} {v : V} {u : Value}, Inv (cxOf CX0 P w K mg base N qual scope f cdv A outer s H E) [] σ' H' s' → RelV v u → Q v H' → CE outer P w H s Q u s' :=
    fun {σ' H' v u} J rv q => ⟨v, H', J.os, J.bare, J.base, J.hok, rv, q⟩
  cases fl with
  | ret u =>
    obtain ⟨v, σ', H', J, rv, q⟩ := hs
    exact fin J rv q
  | next =>
    obtain ⟨σ', H', J, q⟩ := hs
    exact fin (v := V.non) (u := Value.none) J rfl q
  | brk =>
    obtain ⟨_, _, _, q⟩ := hs
    exact False.elim q
  | cont =>
    obtain ⟨_, _, _, q⟩ := hs
    exact False.elim q
/-- what such an __iter__ promises: an iterator over the list in the field f -/
def spIter (K : PySem.W.Frag) (C : Addr) (f : Str) : Nat → Sp := fun n vs H Q _ => ∃ a dx fs l zs, vs = [.ref a] ∧ H a = some (.ins C dx fs) ∧ fs.lookup f = some (.ref l) ∧ SqL K H l zs ∧
  ∀ it, H it = Option.none → n ≤ it → Q (.ref it) (upd H it (ItO l it 0))
section
variable {X : Cx} {k j : Nat} {fi C : Addr} {fd : FuncData} {ps : List Str} {pins : List (Addr × Obj)} {σ : St} {H : Hp} {s : Shared} {te : TE} {f : Str}
theorem run_spS {A : Around} {Q : VK} {us : List Value} {vs : List V} {E : XK} {sp : Nat → Sp} (F : FnOkS X.prog X.w X.K X.mg X.base k fi fd ps sp) (hr : Room k A) (hfr : A.frames = X.A.frames) (hb : Binds X.K fd ps [])
    (I : Inv X pins σ H s) (r : Vals vs us) (h : sp s.heap.objs.size vs H Q E) : wpAny (model X.prog X.w) A (call (.ref fi) us) (EP X pins σ Q) X.xe s := by
  have hl : us.length = ps.length := by rw [← r.length]; exact F.len _ _ _ _ _ h
  have b := hb s us I.kIn (by rw [List.append_nil]; exact hl)
  rw [List.append_nil] at b
  have e := I.env0
  have e0 : Env0 X.prog X.w X.K X.mg X.base A X.stack s H := ⟨by rw [hfr]; exact e.frames, e.mod, e.bs, e.bsz, e.funs, e.frf, e.hok, e.bare⟩
  refine wpAny_call (codeAny_mono (F.run A X.stack s H ⟨us, []⟩ us vs Q E hr e0 b r h) fun r s' hq => ?_)
  cases r with
  | error e => exact (passAt0 (E := E)) pins H s e s' I hq
  | ok fl =>
    cases fl with
    | ret u => exact I.after hq
    | next => exact False.elim hq
    | brk => exact False.elim hq
    | cont => exact False.elim hq
/-- iter(o): the iterator is tracked -/
theorem own_iter {A : Around} {Q : Value → Shared → Prop} {a dx l : Addr} {fs : List (Str × V)} {zs : List V} (F : FnOkS X.prog X.w X.K X.mg X.base k fi fd ps (spIter X.K C f)) (hr : Room k A) (hfr : A.frames = X.A.frames) (M : Meth X.K C "__iter__" fi) (hb : Binds X.K fd ps [])
    (I : Inv X pins σ H s) (ha : H a = some (.ins C dx fs)) (hf : fs.lookup f = some (.ref l)) (hl : SqL X.K H l zs)
    (h : ∀ it s', H it = Option.none → X.s_0.heap.objs.size ≤ it → Inv X pins σ (upd H it (ItO l it 0)) s' → Q (.ref it) s') : wpAny (model X.prog X.w) A (pyIter (.ref a)) Q X.xe s := by
  obtain ⟨mA, J, _⟩ := ins_get I.hok ha
  obtain ⟨od, J, _⟩ := J.look
  obtain ⟨m, hF⟩ := I.fr
  refine PySem.W.owit_iter hF I.ok.mod.kin J M.at_ M.fn ?_
  refine wpAny_mono (run_spS (us := [.ref a]) (vs := [.ref a]) (Q := fun v H' => ∃ it, v = .ref it ∧ H it = Option.none ∧ s.heap.objs.size ≤ it ∧ H' = upd H it (ItO l it 0)) (E := E0) F hr hfr hb I (.cons rfl .nil) ⟨a, dx, fs, l, zs, rfl, ha, hf, hl, fun it h1 h2 => ⟨it, rfl, h1, h2, rfl⟩⟩) (fun v s' hv => ?_) fun _ _ z => z
  obtain ⟨z, H', I', rz, it, rfl, h1, h2, rfl⟩ := hv
  cases rz
  have eo := itO_get I' upd_same
  have hT : s'.TypeIs (.ref it) "list_iterator" := ⟨_, eo, rfl⟩
  unfold PySem.W.OwitIt
  exact wpAny_specialOf (name := Str.ofString "__next__") hT slot_listiter_next.lookup (h it s' h1 (Nat.le_trans I.sz h2) I')
def iOwn (K : PySem.W.Frag) (C : Addr) (f : Str) (te : TE) : TI := fun σ H R => te σ H fun x H1 => ∃ a dx fs l zs, x = .ref a ∧ H1 a = some (.ins C dx fs) ∧ fs.lookup f = some (.ref l) ∧ SqL K H1 l zs ∧ R (Itl K l) H1
/-- for x in o -/
theorem pi_own {tg e : Expr} (F : FnOkS X.prog X.w X.K X.mg X.base k fi fd ps (spIter X.K C f)) (hr : Room k X.A) (M : Meth X.K C "__iter__" fi) (hb : Binds X.K fd ps []) (he : PE X e te) : PI X tg e (iOwn X.K C f te) := by
  refine ⟨fun pins s σ H R I h => ?_⟩
  refine thn (he.run pins s σ H _ I h) fun v s1 ⟨x, H1, I1, r1, a, dx, fs, l, zs, ex, ha, hf, hl, q⟩ => ?_
  subst ex
  cases r1
  refine own_iter F hr rfl M hb I1 ha hf hl fun it s' h1 h2 I' => ?_
  have hi : upd H1 it (ItO l it 0) it = some (ItO l it 0) := upd_same
  have eo := itO_get I' hi
  have I2 := inv_drop (φ := fun h => h.get? it = some (GNX.itObj l 0)) I' hi
  have fp := inv_fp I' hi h2
  rw [show dropH (upd H1 it (ItO l it 0)) it = H1 from dropH_upd h1] at fp I2
  refine ⟨it, [it], _, _, H1, rfl, I2, turn_list l it, ⟨_, eo, rfl, rfl⟩, fun b hb => ?_, q⟩
  have e : b = it := by simpa using hb
  rw [e]
  exact fp

/-! ### list(o) -/
theorem run_sp0 {A : Around} {Q : VK} {us : List Value} {vs : List V} {E : XK} {sp : Sp} {Ex : Value → Shared → Prop} (F : FnOk X.prog X.w X.K X.mg X.base CX0 k fi fd ps sp) (hr : Room k A) (hfr : A.frames = X.A.frames) (hb : Binds X.K fd ps [])
    (I : Inv X pins σ H s) (r : Vals vs us) (h : sp vs H Q E) : wpAny (model X.prog X.w) A (call (.ref fi) us) (EP X pins σ Q) Ex s := by
  have hl : us.length = ps.length := by rw [← r.length]; exact F.len _ _ _ _ h
  have b := hb s us I.kIn (by rw [List.append_nil]; exact hl)
  rw [List.append_nil] at b
  have e := I.env0
  have e0 : Env0 X.prog X.w X.K X.mg X.base A X.stack s H := ⟨by rw [hfr]; exact e.frames, e.mod, e.bs, e.bsz, e.funs, e.frf, e.hok, e.bare⟩
  refine wpAny_call (codeAny_mono (F.run A X.stack s H ⟨us, []⟩ us vs Q E hr e0 b r h) fun r s' hq => ?_)
  cases r with
  | error e => exact False.elim hq
  | ok fl =>
    cases fl with
    | ret u => exact I.after hq
    | next => exact False.elim hq
    | brk => exact False.elim hq
    | cont => exact False.elim hq
variable {fl : Addr} {fdl : FuncData} {psl : List Str} {spl : Sp}
theorem if_yes {α : Type} {M : Model} {A : Around} {E : Value → Shared → Prop} {s : Shared} {c : Bool} {a b : Sem α} {Q : α → Shared → Prop} (hc : c = true) (h : wpAny M A a Q E s) : wpAny M A (if c = true then a else b) Q E s := by
  subst hc; rw [if_pos rfl]; exact h
theorem own_hintL {A : Around} {Q : Bool → Shared → Prop} {a dx : Addr} {fs : List (Str × V)} (F : FnOk X.prog X.w X.K X.mg X.base CX0 k fl fdl psl spl) (hr : Room (k + 1) A) (hfr : A.frames = X.A.frames) (M : Meth X.K C "__len__" fl) (hb : Binds X.K fdl psl [])
    (I : Inv X pins σ H s) (ha : H a = some (.ins C dx fs)) (hsp : spl [.ref a] H (fun v H' => ∃ n : Int, v = .int n ∧ 0 ≤ n ∧ n < 100000 ∧ Evl.Ex H H') E0)
    (h : ∀ b s' H', Evl.Ex H H' → Inv X pins σ H' s' → Q b s') : wpAny (model X.prog X.w) A (Builtin.List.listLengthHint (.ref a)) Q X.xe s := by
  obtain ⟨mA, J, _⟩ := ins_get I.hok ha
  obtain ⟨od, J, _⟩ := J.look
  obtain ⟨m, hF⟩ := I.fr
  unfold Builtin.List.listLengthHint
  refine wpAny_bind (wpAny_bind (J.type.here ((PySem.W.looks_findIn I.kIn M.at_).here ?_)))
  refine PySem.W.KFB.if_not rfl ?_
  refine if_yes rfl ?_
  refine wpAny_bind (wpAny_rule ?_)
  refine wpAny_bind (wpAny_attempt ?_)
  refine PySem.W.len_K hF I.ok.mod.kin J M.at_ M.fn ?_
  refine wpAny_mono (run_sp0 (us := [.ref a]) (vs := [.ref a]) F hr.in1 hfr hb I (.cons rfl .nil) hsp) (fun v s' hv => ?_) fun _ _ z => z
  · obtain ⟨z, H', I', rz, n, rfl, h0, h1, h2⟩ := hv
    obtain ⟨t, rfl⟩ : ∃ t, v = .int n t := rz
    refine ⟨⟨h0, by omega⟩, ?_⟩
    refine wpAny_bind (m := asInt? (.int n _)) (wpAny_pure ?_)
    refine PySem.W.KFB.if_not (notLongL (by rw [sizeLine_eq]; omega)) ?_
    exact wpAny_pure (h _ _ _ h2 (I'.tok _))
/-- the rest of the list at l goes into the list at q -/
theorem iter_loop {A1 : Around} {it l q : Addr} {zs : List V} {res : Value} {Rs : Result → Shared → Prop} {H0 : Hp} (hh : A1.in1.handled = none) (hit : H0 it = Option.none) (hq : H0 q = Option.none) (hne : q ≠ it) (hyo : X.s_0.heap.objs.size ≤ it)
    (hl : SqL X.K H0 l zs) (hz : zs.length ≤ 100000) (hdone : ∀ s, Inv X pins σ (upd H0 q (.lst zs)) s → Rs (.ok (.ret res)) s) :
    ∀ (m i : Nat) (s : Shared), m = zs.length - i → i ≤ zs.length → Inv X pins σ (upd (upd H0 q (.lst (zs.take i))) it (ItO l it i)) s →
      codeAny (model X.prog X.w) A1 (.builtin "list.extend.loop" ⟨[.ref q, .ref it, res], []⟩) Rs s := by
  have ex : ∀ i, Evl.Ex H0 (upd (upd H0 q (.lst (zs.take i))) it (ItO l it i)) := fun i => Evl.Ex.mut (Evl.Ex.mut (Evl.Ex.refl _) hq) hit
  intro m
  induction m with
  | zero =>
    intro i s hm hi I
    have : i = zs.length := by omega
    subst this
    refine codeAny_builtin PySem.F.entry_extend_loop ?_
    rw [Around.under_plainId PySem.F.plain_extend_loop _]
    show wpAny _ A1.in1 (pyNext (.ref it) >>= _) _ _ s
    have e1 : upd (upd H0 q (.lst (zs.take zs.length))) it (ItO l it zs.length) it = some (ItO l it zs.length) := upd_same
    have eo := itO_get I e1
    obtain ⟨its, rv, pl, _⟩ := I.list (Evl.ex_l (ex zs.length) hl)
    refine wpAny_bind (wpAny_pyNext_list_end hh ⟨_, eo, rfl, rfl⟩ pl.isList (i := zs.length) ?_ fun h' hE => ?_)
    · rw [List.getElem?_toArray]
      exact rv.none_of (by simp)
    · have I2 := inv_drop (φ := fun h => h.get? it = some (GNX.itObj l zs.length)) I e1
      have fp := inv_fp I e1 hyo
      have hn : upd H0 q (.lst (zs.take zs.length)) it = Option.none := by rw [upd_ne (Ne.symm hne)]; exact hit
      rw [show dropH (upd (upd H0 q (.lst (zs.take zs.length))) it (ItO l it zs.length)) it = upd H0 q (.lst (zs.take zs.length)) from dropH_upd hn, List.take_length] at fp I2
      have I3 := I2.turnedL (h' := h') (t' := s.toks) (ch := [it]) (fun b o hb e => hE b o (by simpa using hb) e) (fun b hb => by
        have : b = it := by simpa using hb
        rw [this]; exact fp)
      exact wpAny_pure (hdone _ I3)
  | succ m ih =>
    intro i s hm hi I
    have hlt : i < zs.length := by omega
    refine codeAny_builtin PySem.F.entry_extend_loop ?_
    rw [Around.under_plainId PySem.F.plain_extend_loop _]
    show wpAny _ A1.in1 (pyNext (.ref it) >>= _) _ _ s
    have e1 : upd (upd H0 q (.lst (zs.take i))) it (ItO l it i) it = some (ItO l it i) := upd_same
    have eo := itO_get I e1
    obtain ⟨its, rv, pl, _⟩ := I.list (Evl.ex_l (ex i) hl)
    obtain ⟨u, hu, ru⟩ := rv.get (show zs[i]? = some zs[i] from List.getElem?_eq_getElem hlt)
    have hT : s.TypeIs (.ref it) "list_iterator" := ⟨_, eo, rfl⟩
    refine wpAny_bind ?_
    unfold pyNext
    refine wpAny_bind (wpAny_attempt (wpAny_callSpecial?_slot (name := Str.ofString "__next__") hT slot_listiter_next (wpAny_call_entry slot_listiter_next hT entry_listiter_next ?_ (args_listiter_next _))))
    refine GNX.next_item eo pl.isList (by rw [List.getElem?_toArray]; exact hu) fun h' e' sb => ?_
    refine wpAny_pure ?_
    have mu : Mut (upd (upd H0 q (.lst (zs.take i))) it (ItO l it i) it) := by rw [e1]; exact True.intro
    have I2 : Inv X pins σ (upd (upd (upd H0 q (.lst (zs.take i))) it (ItO l it i)) it (ItO l it (i + 1))) { s with heap := h' } := I.write (x := it) (e := it) (t' := s.toks) mu (.inl rfl) (fun b o nb z => (sb.2 b nb).trans z) ⟨_, e'⟩ (itO_ok e')
    rw [upd_upd] at I2
    have eq : upd (upd H0 q (.lst (zs.take i))) it (ItO l it (i + 1)) q = some (.lst (zs.take i)) := by rw [upd_ne hne]; exact upd_same
    obtain ⟨z, its2, k2, r2, hl2, e2⟩ := I2.lstM eq
    show wpAny _ A1.in1 (updateSeq q (·.push u) >>= _) _ _ _
    have hlen : (zs.take i).length = i := by rw [List.length_take]; omega
    refine wpAny_bind (wpAny_updateSeq e2 rfl (wpAny_pure ⟨plainId_quiet PySem.F.plain_extend_loop _, ?_⟩) (by rw [List.size_toArray, sizeLine_eq]; omega) (by show (its2.toArray.push u).size ≤ sizeLine + 1; rw [Array.size_push, List.size_toArray, sizeLine_eq]; omega))
    have I3 := I2.lset (f := (·.push u)) (its' := its2 ++ [u]) (ys := zs.take i ++ [zs[i]]) (t' := s.toks) eq e2 (by simp) (r2.append (.cons ru .nil)) (by rw [List.length_append, List.length_singleton, sizeLine_eq]; omega)
    have eH : upd (upd (upd H0 q (.lst (zs.take i))) it (ItO l it (i + 1))) q (.lst (zs.take i ++ [zs[i]])) = upd (upd H0 q (.lst (zs.take (i + 1)))) it (ItO l it (i + 1)) := by
      funext b
      by_cases h1 : b = q
      · subst h1; rw [upd_same, upd_ne hne, upd_same, List.take_succ_eq_append_getElem hlt]
      · rw [upd_ne h1]
        by_cases h2 : b = it
        · subst h2; rw [upd_same, upd_same]
        · rw [upd_ne h2, upd_ne h2, upd_ne h1, upd_ne h1]
    rw [eH] at I3
    exact ih (i + 1) _ (by omega) (by omega) I3
/-- q.extend(o), q a new list -/
theorem own_extendI {A1 : Around} {a q l dx : Addr} {fs : List (Str × V)} {zs : List V} {res : Value} {Rs : Result → Shared → Prop} {H0 : Hp} (hh : A1.in1.handled = none) (hr : Room (k + 1) A1) (hfr : A1.frames = X.A.frames)
    (F : FnOkS X.prog X.w X.K X.mg X.base k fi fd ps (spIter X.K C f)) (M : Meth X.K C "__iter__" fi) (hb : Binds X.K fd ps [])
    (Fl : FnOk X.prog X.w X.K X.mg X.base CX0 k fl fdl psl spl) (Ml : Meth X.K C "__len__" fl) (hbl : Binds X.K fdl psl [])
    (ha : H0 a = some (.ins C dx fs)) (hf : fs.lookup f = some (.ref l)) (hl : SqL X.K H0 l zs) (hz : zs.length ≤ 100000) (hq : H0 q = Option.none) (hQ : upd H0 q (.lst []) = H)
    (hsp : ∀ H1, Evl.Ex H0 H1 → spl [.ref a] H1 (fun v H' => ∃ n : Int, v = .int n ∧ 0 ≤ n ∧ n < 100000 ∧ Evl.Ex H1 H') E0)
    (I : Inv X pins σ H s) (hdone : ∀ H2 s, Evl.Ex H0 H2 → H2 q = Option.none → Inv X pins σ (upd H2 q (.lst zs)) s → Rs (.ok (.ret res)) s) :
    wpAny (model X.prog X.w) A1 (Builtin.List.listExtendWith (.ref q) (.ref a) res)
      (fun fin s' => match fin with | .done f => Rs (.ok f) s' | .again c' => c'.quiet = true ∧ ∀ A2 : Around, A2.in1.handled = none → codeAny (model X.prog X.w) A2 c' Rs s') X.xe s := by
  subst hQ
  have hne : q ≠ a := fun z => by rw [z, ha] at hq; cases hq
  have ha' : upd H0 q (.lst []) a = some (.ins C dx fs) := by rw [upd_ne (Ne.symm hne)]; exact ha
  obtain ⟨mA, J, _⟩ := ins_get I.hok ha'
  obtain ⟨od, J, _⟩ := J.look
  unfold Builtin.List.listExtendWith
  refine wpAny_bind (J.type.here ?_)
  have h1 : Builtin.List.listSameRef (.ref q) (.ref a) = false := by simp [Builtin.List.listSameRef, hne]
  have h2 : (Value.ref C == Value.type "list") = false := rfl
  have h3 : (Value.ref C == Value.type "tuple") = false := rfl
  simp only [h1, h2, h3, Bool.or_false, Bool.false_eq_true, if_false]
  have e0q : Evl.Ex H0 (upd H0 q (.lst [])) := Evl.Ex.new hq
  refine wpAny_bind (own_iter F (hr.mono (Nat.le_succ _)) hfr M hb I ha' hf (Evl.ex_l e0q hl) fun it s' hit hyo I' => ?_)
  have hqi : q ≠ it := fun z => by rw [← z, upd_same] at hit; cases hit
  have hit0 : H0 it = Option.none := by rw [upd_ne (Ne.symm hqi)] at hit; exact hit
  have e0i : Evl.Ex H0 (upd (upd H0 q (.lst [])) it (ItO l it 0)) := Evl.Ex.mut e0q hit0
  refine wpAny_bind (wpAny_holding (own_hintL Fl hr hfr Ml hbl I' (e0i a _ ha) (hsp _ e0i) fun b s2 H3 e3 I2 => ?_))
  have eq0 : upd (upd H0 q (.lst [])) it (ItO l it 0) q = some (.lst []) := by rw [upd_ne hqi]; exact upd_same
  have eq : H3 q = some (.lst []) := e3 q _ eq0
  have ei : H3 it = some (ItO l it 0) := e3 it _ upd_same
  let H2 : Hp := fun b => if b = q then Option.none else if b = it then Option.none else H3 b
  have g1 : H2 q = Option.none := if_pos rfl
  have g2 : H2 it = Option.none := by show (if it = q then Option.none else if it = it then Option.none else H3 it) = _; rw [if_neg (Ne.symm hqi), if_pos rfl]
  have g3 : upd (upd H2 q (.lst [])) it (ItO l it 0) = H3 := by
    funext b
    by_cases b1 : b = it
    · subst b1; rw [upd_same, ei]
    · rw [upd_ne b1]
      by_cases b2 : b = q
      · subst b2; rw [upd_same, eq]
      · rw [upd_ne b2]
        show (if b = q then Option.none else if b = it then Option.none else H3 b) = _
        rw [if_neg b2, if_neg b1]
  have g4 : Evl.Ex H0 H2 := fun b o hb => by
    have b1 : b ≠ it := fun z => by rw [z, hit0] at hb; cases hb
    have b2 : b ≠ q := fun z => by rw [z, hq] at hb; cases hb
    show (if b = q then Option.none else if b = it then Option.none else H3 b) = _
    rw [if_neg b2, if_neg b1]
    exact e3 b o (e0i b o hb)
  have go : ∀ s3, Inv X pins σ H3 s3 → ∀ A2 : Around, A2.in1.handled = none → codeAny (model X.prog X.w) A2 (.builtin "list.extend.loop" ⟨[.ref q, .ref it, res], []⟩) Rs s3 := fun s3 I3 A2 hA => iter_loop hA g2 g1 hqi hyo (Evl.ex_l g4 hl) hz (fun s I => hdone H2 s g4 g1 I) zs.length 0 s3 (by omega) (by omega) (by rw [List.take_zero, g3]; exact I3)
  refine wpAny_ite_split (fun _ => ?_) (fun _ => wpAny_pure ⟨plainId_quiet PySem.F.plain_extend_loop _, go s2 I2⟩)
  refine wpAny_bind (wpAny_rule ?_)
  refine wpAny_bind ?_
  show wpAny _ _ (updateSeq q (·.push .none) >>= fun _ => updateSeq q (·.pop)) _ _ _
  obtain ⟨z, its, k', r3, hl3, e3⟩ := I2.lstM eq
  cases r3
  refine wpAny_bind (wpAny_updateSeq e3 rfl ?_)
  have I4 := I2.lset (f := (·.push Value.none)) (its' := [Value.none]) (ys := [.non]) (t' := s2.toks) eq e3 (by simp) (.cons rfl .nil) (by rw [List.length_singleton, sizeLine_eq]; decide)
  obtain ⟨z4, its4, k4, r4, hl4, e4⟩ := I4.lstM upd_same
  obtain ⟨u4, rfl, ru4⟩ := r4.one
  refine wpAny_updateSeq e4 rfl ?_ (by show 1 ≤ sizeLine; rw [sizeLine_eq]; decide) (by show 0 ≤ sizeLine + 1; exact Nat.zero_le _)
  have I5 := I4.lset (f := (·.pop)) (its := [u4]) (its' := []) (ys := []) (t' := s2.toks) upd_same e4 (by rfl) .nil (Nat.zero_le _)
  rw [upd_upd] at I5
  have hH : upd H3 q (.lst []) = H3 := by
    funext b
    by_cases hb : b = q
    · rw [hb, upd_same, eq]
    · rw [upd_ne hb]
  rw [hH] at I5
  exact wpAny_pure ⟨plainId_quiet PySem.F.plain_extend_loop _, go _ I5⟩
/-- list(o) -/
def rOwnI (K : PySem.W.Frag) (C : Addr) (f : Str) (spl : Sp) : List V → Hp → VK → Prop := fun xs H Q => ∃ a dx fs l zs, xs = [.ref a] ∧ H a = some (.ins C dx fs) ∧ fs.lookup f = some (.ref l) ∧ SqL K H l zs ∧ zs.length ≤ 100000 ∧
  (∀ H1, Evl.Ex H H1 → spl [.ref a] H1 (fun v H' => ∃ n : Int, v = .int n ∧ 0 ≤ n ∧ n < 100000 ∧ Evl.Ex H1 H') E0) ∧ ∀ q H2, H q = Option.none → Evl.Ex H H2 → H2 q = Option.none → Q (.ref q) (upd H2 q (.lst zs))
theorem call_listOwnI (hc : X.calm = true) (hr : Room (k + 3) X.A) (F : FnOkS X.prog X.w X.K X.mg X.base k fi fd ps (spIter X.K C f)) (M : Meth X.K C "__iter__" fi) (hb : Binds X.K fd ps [])
    (Fl : FnOk X.prog X.w X.K X.mg X.base CX0 k fl fdl psl spl) (Ml : Meth X.K C "__len__" fl) (hbl : Binds X.K fdl psl []) : CallR X (.type "list") (rOwnI X.K C f spl) := by
  intro pins s σ H xs us Q I rv h
  obtain ⟨a, dx, fs, l, zs, rfl, ha, hf, hl, hz, hsp, hQ⟩ := h
  obtain ⟨u, rfl, ru⟩ := rv.one
  cases ru
  refine callType_codes (Q₁ := fun obj s₁ => obj = .ref s.heap.objs.size ∧ s₁ = { s with heap := s.heap.push { cls := .type "list", data := .seq #[] } }) PySem.F.called_list (PySem.F.typeCall_list_1 _) PySem.F.entry_list_init
    (code_list_new _ ⟨rfl, rfl⟩) fun obj s₁ h₁ => ?_
  obtain ⟨rfl, rfl⟩ := h₁
  have hS : (s.heap.push { cls := .type "list", data := .seq #[] }).get? s.heap.objs.size = some { cls := .type "list", data := .seq #[] } := Heap.get?_push_size _ rfl
  refine ⟨⟨_, hS, rfl⟩, PySem.F.args_list_init_2 _ _, ?_⟩
  have fr : H s.heap.objs.size = none := I.hok.fresh (Nat.le_refl _)
  have I1 : Inv X pins σ (upd H s.heap.objs.size (.lst [])) { s with heap := s.heap.push { cls := .type "list", data := .seq #[] } } := I.lnew (its := []) (t' := s.toks) .nil (Nat.zero_le _)
  show wpAny _ _ (do let old ← Builtin.List.listItems (.ref s.heap.objs.size); Builtin.List.listUpdate (.ref s.heap.objs.size) (fun _ => #[]); letGo old.toList.reverse; Builtin.List.listExtendWith (.ref s.heap.objs.size) (.ref a) .none) _ _ _
  refine wpAny_bind ?_
  unfold Builtin.List.listItems
  refine wpAny_bind (wpAny_seqItems hS rfl (wpAny_pure ?_))
  show wpAny _ _ (updateSeq s.heap.objs.size (fun _ => #[]) >>= fun _ => letGo (#[] : Array Value).toList.reverse >>= fun _ => Builtin.List.listExtendWith (.ref s.heap.objs.size) (.ref a) .none) _ _ _
  refine wpAny_bind (wpAny_updateSeq hS rfl ?_)
  have I2 := I1.lset (f := fun _ => #[]) (its := []) (its' := []) (ys := []) (t' := s.toks) upd_same hS rfl .nil (Nat.zero_le _)
  rw [upd_upd] at I2
  refine wpAny_bind (wpAny_letGo ?_)
  have hd := I.ok.hd hc
  refine wpAny_mono (own_extendI (A1 := X.A.in1.in1) (Rs := wants (fun r s₂ => r = .none ∧ EP X pins σ Q (.ref s.heap.objs.size) s₂) X.xe) hd hr.in1.in1 rfl F M hb Fl Ml hbl ha hf hl hz fr rfl hsp I2
    (fun H2 s' e2 n2 I' => ⟨rfl, .ref s.heap.objs.size, _, I', rfl, hQ _ H2 fr e2 n2⟩)) (fun fin s' hfin => ?_) fun e s' he => he
  cases fin with
  | done f => exact hfin
  | again c => exact ⟨hfin.1, hfin.2 _ hd⟩
/-- what collects the items of o -/
theorem collect_own {A : Around} {a l dx : Addr} {fs : List (Str × V)} {zs : List V} {Q : List Value → Shared → Prop} (hh : A.handled = none) (hr : Room (k + 3) A) (hfr : A.frames = X.A.frames)
    (F : FnOkS X.prog X.w X.K X.mg X.base k fi fd ps (spIter X.K C f)) (M : Meth X.K C "__iter__" fi) (hb : Binds X.K fd ps [])
    (Fl : FnOk X.prog X.w X.K X.mg X.base CX0 k fl fdl psl spl) (Ml : Meth X.K C "__len__" fl) (hbl : Binds X.K fdl psl [])
    (ha : H a = some (.ins C dx fs)) (hf : fs.lookup f = some (.ref l)) (hl : SqL X.K H l zs) (hz : zs.length ≤ 100000)
    (hsp : ∀ H1, Evl.Ex H H1 → spl [.ref a] H1 (fun v H' => ∃ n : Int, v = .int n ∧ 0 ≤ n ∧ n < 100000 ∧ Evl.Ex H1 H') E0)
    (I : Inv X pins σ H s) (h : ∀ its s' H', Evl.Ex H H' → Inv X pins σ H' s' → Vals zs its → Q its s') : wpAny (model X.prog X.w) A (collect (.ref a)) Q X.xe s := by
  unfold collect
  refine wpAny_bind (wpAny_runValue (codeAny_builtin PyProof.Rows.entry_proto_collect' ?_))
  show wpAny _ _ (do again (.builtin "list.__iadd__" ⟨[← newList [], .ref a], []⟩)) _ _ s
  have fr : H s.heap.objs.size = none := I.hok.fresh (Nat.le_refl _)
  refine wpAny_bind (wpAny_newList (wpAny_pure ⟨Code.quiet_builtin _ (by decide +kernel), codeAny_builtin PyProof.Rows.entry_list_iadd' ?_⟩))
  have I1 : Inv X pins σ (upd H s.heap.objs.size (.lst [])) { s with heap := s.heap.push { cls := .type "list", data := .seq #[] } } := I.lnew (its := []) (t' := s.toks) .nil (Nat.zero_le _)
  rw [Around.under_plainId PySem.F.plain_list_iadd _]
  show wpAny _ A.in1 (Builtin.List.listExtendWith (.ref s.heap.objs.size) (.ref a) (.ref s.heap.objs.size)) _ _ { s with heap := s.heap.push { cls := .type "list", data := .seq #[] } }
  refine wpAny_mono (own_extendI (A1 := A.in1) (Rs := fun r s' => match r with
    | .ok (.ret v) => wpAny (model X.prog X.w) A (match v with
      | .ref a => do
        let o ← load a
        match o.data with
        | .seq xs _ => pure xs.toList
        | _ => unsupported "internal:collect"
      | _ => unsupported "internal:collect") Q X.xe s'
    | .ok _ => False
    | .error e => X.xe e s') hh (hr.in1.mono (Nat.le_succ _)) hfr F M hb Fl Ml hbl ha hf hl hz fr rfl hsp I1
    (fun H2 s' e2 n2 I' => ?_)) (fun fin s' hfin => ?_) fun e s' he => he
  rotate_left
  · cases fin with
    | done f => cases f <;> exact hfin
    | again c => exact ⟨hfin.1, codeAny_mono (hfin.2 A hh) fun r s' q => by
        cases r with
        | error e => exact q
        | ok fl => cases fl <;> exact q⟩
  · obtain ⟨z, its, k2, r2, hl2, e2'⟩ := I'.lstM upd_same
    show wpAny (model X.prog X.w) A (do
        let o ← load s.heap.objs.size
        match o.data with
        | .seq xs _ => pure xs.toList
        | _ => unsupported "internal:collect") Q X.xe s'
    refine wpAny_bind (wpAny_load e2' ?_)
    show wpAny _ _ (pure its.toArray.toList) Q X.xe _
    rw [show its.toArray.toList = its by simp]
    exact wpAny_pure (h its s' _ (Evl.Ex.mut e2 fr) I' r2)
def rOwnSI (K : PySem.W.Frag) (C : Addr) (f : Str) (spl : Sp) : List V → Hp → VK → Prop := fun xs H Q => ∃ a dx fs l ns, xs = [.ref a] ∧ H a = some (.ins C dx fs) ∧ fs.lookup f = some (.ref l) ∧ SqL K H l (ns.map V.int) ∧ ns.length < 64 ∧
  (∀ H1, Evl.Ex H H1 → spl [.ref a] H1 (fun v H' => ∃ n : Int, v = .int n ∧ 0 ≤ n ∧ n < 100000 ∧ Evl.Ex H1 H') E0) ∧ ∀ (ns' : List Int) q H2, ns'.Perm ns → ns'.Pairwise (· ≤ ·) → Evl.Ex H H2 → H2 q = Option.none → Q (.ref q) (upd H2 q (.lst (ns'.map V.int)))
/-- sorted(o) -/
theorem call_sortedOwnI (hc : X.calm = true) (hr : Room (k + 4) X.A) (F : FnOkS X.prog X.w X.K X.mg X.base k fi fd ps (spIter X.K C f)) (M : Meth X.K C "__iter__" fi) (hb : Binds X.K fd ps [])
    (Fl : FnOk X.prog X.w X.K X.mg X.base CX0 k fl fdl psl spl) (Ml : Meth X.K C "__len__" fl) (hbl : Binds X.K fdl psl []) : CallR X (.builtin "sorted") (rOwnSI X.K C f spl) := by
  intro pins s σ H xs us Q I rv h
  obtain ⟨a, dx, fs, l, ns, rfl, ha, hf, hl, h64, hsp, hQ⟩ := h
  obtain ⟨u, rfl, ru⟩ := rv.one
  cases ru
  have hd := I.ok.hd hc
  refine Calls.call_function_entry PyProof.Rows.kind_sorted PyProof.Rows.plain_sorted PyProof.Rows.entry_sorted (PyProof.Rows.args_sorted1 _) ?_
  unfold Builtin.«sorted»
  refine wpAny_bind (m := checkCount "sorted" 1 1 _) (wpAny_pure ?_)
  refine wpAny_bind (collect_own (A := X.A.in1) hd hr.in1 rfl F M hb Fl Ml hbl ha hf hl (by rw [List.length_map]; omega) hsp I fun its s' H' e' I' rv' => ?_)
  have hlen0 := rv'.length
  rw [List.length_map] at hlen0
  refine wpAny_bind (wpAny_newList ?_ (by rw [← hlen0, sizeLine_eq]; omega))
  have I1 : Inv X pins σ (upd H' s'.heap.objs.size (.lst (ns.map V.int))) { s' with heap := s'.heap.push { cls := .type "list", data := .seq its.toArray } } := I'.lnew (its := its) (t' := s'.toks) rv' (by rw [List.length_map, sizeLine_eq]; omega)
  have hoL : (s'.heap.push { cls := .type "list", data := .seq its.toArray }).get? s'.heap.objs.size = some (PyProof.Rows.seqObj "list" its.toArray 0) := Heap.get?_push_size _ rfl
  have hi := rv'.ints
  refine wpAny_bind (wpAny_holding (wpAny_call_entry PyProof.Rows.slot_list_sort ⟨_, hoL, rfl⟩ PyProof.Rows.entry_list_sort (PyProof.Rows.list_sort_tree (s := { s' with heap := s'.heap.push { cls := .type "list", data := .seq its.toArray } }) hoL hi (by rw [hi.length]; exact h64) fun out ns' a1 a2 a3 => ⟨_, rfl, ?_⟩) (PyProof.Rows.args_list_sort _)))
  refine wpAny_pure ⟨_, rfl, ?_⟩
  obtain ⟨ep, he'⟩ := PyProof.Rows.sortedHeap_at (vs := its) (out := out) hoL
  have hlen : (ns'.map V.int).length ≤ sizeLine := by rw [List.length_map, a2.length_eq]; exact small64 h64
  have fr : H' s'.heap.objs.size = none := I'.hok.fresh (Nat.le_refl _)
  have I2 := I1.write (x := s'.heap.objs.size) (e := s'.heap.objs.size) (o := .lst (ns'.map V.int)) (h' := PyProof.Rows.sortedHeap (s'.heap.push { cls := .type "list", data := .seq its.toArray }) s'.heap.objs.size its out) (t' := s'.toks) (by rw [upd_same]; trivial) (.inl rfl) (fun b u hb hu => by
    rw [PyProof.Rows.sortedHeap_old hb (Heap.lt_size hu)]; exact hu) ⟨_, he'⟩ ⟨hlen, out.toList, ep, vals_of_ints a1, he'⟩
  rw [upd_upd] at I2
  exact ⟨.ref s'.heap.objs.size, _, I2, rfl, hQ ns' _ H' a2 a3 e' fr⟩
end
end L2

namespace Sim
open PySem L2 Evl
section
variable {K : PySem.W.Frag} {σ : L2.St} {G H W : Hp} {te : TE} {α β γ : Type} {R : Rep β} {C : Addr} {ns : List Str} {fl : α → List Pd}
/-- the items of an own iterable, its length asked first -/
def ownL (m : Option Int) (zs : List β) : Option (List β) := m >>= fun n => bif decide (0 ≤ n ∧ n < 100000 ∧ zs.length ≤ 100000) then some zs else none
theorem own_len {flen : α → Option Int} {o : α} {n : Int} {a dx : Addr} {fs : List (Str × V)} {H1 : Hp} (e1 : Ex H H1) (e : Ex G H) (h2 : G a = some (.ins C dx fs)) (h3 : Fl ns (fl o) G fs) (hn : flen o = some n) (h0 : 0 ≤ n) (h1 : n < 100000) :
    PF (aC (rObj C ns fl) aN) rI (fun i => flen i.1) [.ref a] H1 (fun v H' => ∃ n : Int, v = .int n ∧ 0 ≤ n ∧ n < 100000 ∧ Ex H1 H') E0 :=
  ⟨G, (o, ()), n, e.trans e1, ⟨_, _, rfl, ⟨a, dx, fs, rfl, h2, h3⟩, rfl⟩, hn, fun v H2 G2 u r => ⟨n, r, h0, h1, u.hh⟩⟩
theorem rc_ownL {f : Str} {flen : α → Option Int} (i : Nat) (g : α → List β) (hi : ns.findIdx? (fun x => x == f) = some i) (hp : ∀ x, (fl x)[i]? = some (pd (rL R) (g x))) :
    RCL (rOwnI K C f (PF (aC (rObj C ns fl) aN) rI fun i => flen i.1)) (aC (rObj C ns fl) aN) R (fun i => ownL (flen i.1) (g i.1)) := fun vs x z H G hv hz e Q q => by
  obtain ⟨n, hn, hz⟩ := bindS hz
  cases hb : decide (0 ≤ n ∧ n < 100000 ∧ (g x.1).length ≤ 100000) with
  | false => rw [hb] at hz; cases hz
  | true =>
    rw [hb] at hz
    cases hz
    obtain ⟨b1, b2, b3⟩ := of_decide_eq_true hb
    obtain ⟨v, ws, rfl, ⟨a, dx, fs, rfl, h2, h3⟩, rfl⟩ := hv
    obtain ⟨w, hw, l, us, rfl, k2, k3⟩ := pr_get h3.2 (hp x.1)
    refine ⟨a, dx, fs, l, us, rfl, e a _ h2, look_at h3.1 hi hw, Or.inl (Or.inl (e l _ k2)), by rw [k3.length]; exact b3, fun H1 e1 => own_len e1 e h2 h3 hn b1 b2, fun p H2 hp0 e2 hp => ?_⟩
    exact q p _ G hp0 (Up.same e (e2.trans (Ex.new hp))) (wd_new (e.trans e2) hp k3)
theorem rc_ownS {f : Str} {flen : α → Option Int} (i : Nat) (g : α → List Int) (hi : ns.findIdx? (fun x => x == f) = some i) (hp : ∀ x, (fl x)[i]? = some (pd (rL rI) (g x))) :
    RCL (rOwnSI K C f (PF (aC (rObj C ns fl) aN) rI fun i => flen i.1)) (aC (rObj C ns fl) aN) rI (fun i => ownL (flen i.1) (g i.1) >>= fun zs => if zs.length < 64 then some (srtI zs) else none) := fun vs x z H G hv hz e Q q => by
  obtain ⟨zs, hz0, hz⟩ := bindS hz
  obtain ⟨n, hn, hz0⟩ := bindS hz0
  cases hb : decide (0 ≤ n ∧ n < 100000 ∧ (g x.1).length ≤ 100000) with
  | false => rw [hb] at hz0; cases hz0
  | true =>
    rw [hb] at hz0
    cases hz0
    obtain ⟨b1, b2, b3⟩ := of_decide_eq_true hb
    split at hz
    · rename_i hl
      cases hz
      obtain ⟨v, ws, rfl, ⟨a, dx, fs, rfl, h2, h3⟩, rfl⟩ := hv
      obtain ⟨w, hw, l, us, rfl, k2, k3⟩ := pr_get h3.2 (hp x.1)
      have h3' := pr_ints k3
      subst h3'
      refine ⟨a, dx, fs, l, g x.1, rfl, e a _ h2, look_at h3.1 hi hw, Or.inl (Or.inl (e l _ k2)), hl, fun H1 e1 => own_len e1 e h2 h3 hn b1 b2, fun ns' p H2 hpm hs e2 hp => ?_⟩
      have : ns' = srtI (g x.1) := srt_uniq (hpm.trans (srtI_perm _).symm) hs (srtI_sorted _)
      subst this
      have hp0 : H p = none := by
        cases hq : H p with
        | none => rfl
        | some o => rw [e2 p o hq] at hp; cases hp
      exact q p _ G hp0 (Up.same e (e2.trans (Ex.new hp))) (wd_new (e.trans e2) hp (ints_pr _))
    · cases hz
theorem src_own {f : Str} {m : Option α} (i : Nat) (g : α → List β) (h : E te σ G W (rObj C ns fl) m) (hi : ns.findIdx? (fun x => x == f) = some i) (hp : ∀ x, (fl x)[i]? = some (pd (rL R) (g x))) : Src (iOwn K C f te) σ G W R (m >>= fun x => some (g x)) := fun xs hx H e e' k q => by
  obtain ⟨x, hx1, hx⟩ := bindS hx
  cases hx
  refine h x hx1 H e e' _ fun v H1 G1 u r => ?_
  obtain ⟨a, dx, fs, rfl, h2, h3⟩ := r
  obtain ⟨w, hw, l, us, rfl, k2, k3⟩ := pr_get h3.2 (hp x)
  refine ⟨a, dx, fs, l, us, rfl, u.gh a _ h2, look_at h3.1 hi hw, Or.inl (Or.inl (u.gh l _ k2)), q _ H1 G1 u fun i H' e1 => ⟨fun hi => ?_, fun x hx => ?_⟩⟩
  · subst hi; exact ⟨us, Or.inl (Or.inl (e1 l _ k2)), by rw [k3.length]; exact Nat.le_refl _⟩
  · obtain ⟨v, hv, r⟩ := pr_get k3 hx
    refine ⟨⟨us, v, Or.inl (Or.inl (e1 l _ k2)), hv⟩, fun w H2 y => ?_⟩
    obtain ⟨rfl, y⟩ := y
    have := y us (Or.inl (Or.inl (e1 l _ k2)))
    rw [hv] at this
    cases this
    exact ⟨rfl, r⟩
theorem x_forO {G0 H0 : Hp} {ls : List Addr} {cs : Cs} {tz : TS} {D : Ends} {g : TG} {tu : TS} {f : Str} {m : Option α} {o : α} (i : Nat) (gf : α → List β) (w : Wo G0 H0 ls G H cs) (h : E te σ G H (rObj C ns fl) m) (hm : m = some o) (hi : ns.findIdx? (fun x => x == f) = some i) (hp : ∀ x, (fl x)[i]? = some (pd (rL R) (gf x)))
    (P : Nat → Hp → Hp → L2.St → Prop) (hP : ∀ i G' H' σ', P i G' H' σ' → Ex G' H')
    (h0 : ∀ G' H', Wo G0 H0 ls G' H' cs → Ex G G' → P 0 G' H' σ)
    (hs : ∀ G1, Ex G G1 → ∀ i x v σ' G' H', (gf o)[i]? = some x → Ex G1 G' → P i G' H' σ' → R.r G' v x → g v σ' H' fun σ2 H2 => tu { D with nx := fun σ' H' => ∃ G', Ex G1 G' ∧ P (i + 1) G' H' σ', ct := fun σ' H' => ∃ G', Ex G1 G' ∧ P (i + 1) G' H' σ', bk := tz D } σ2 H2)
    (hd : ∀ σ' G' H', Ex G G' → P (gf o).length G' H' σ' → tz D σ' H') : tSeq (tFor (iOwn K C f te) g tu) tz D σ H :=
  h o hm H w.ex (Ex.refl _) _ fun v H1 G1 u r => by
    obtain ⟨a, dx, fs, rfl, k2, k3⟩ := r
    obtain ⟨w', hw, l, vs, rfl, h2, h3⟩ := pr_get k3.2 (hp o)
    refine ⟨a, dx, fs, l, vs, rfl, u.gh a _ k2, look_at k3.1 hi hw, Or.inl (Or.inl (u.gh l _ h2)), for_list (K := K) (a := l) (xs := vs) (fun i σ' H' => ∃ G', Ex G1 G' ∧ P i G' H' σ') ⟨G1, Ex.refl _, h0 G1 H1 (w.up u) u.gg⟩ ?_ ?_ ?_⟩
    · rintro i σ' H' _ ⟨G', e, p⟩
      exact Or.inl (Or.inl (hP _ _ _ _ p l _ (e l _ h2)))
    · rintro i y σ' H' hy ⟨G', e, p⟩
      obtain ⟨x, hx, r⟩ := pr_get' h3 hy
      exact hs G1 u.gg i x y σ' G' H' hx e p (R.mono e r)
    · rintro σ' H' ⟨G', e, p⟩
      rw [h3.length] at p
      exact hd σ' G' H' (u.gg.trans e) p
end
end Sim
namespace Sim
open PySem L2
/-- a method that may speak of how many objects there are -/
def FmS (P : Program) (w : World) (K : PySem.W.Frag) (mg : Str → Option Value) (base : Heap) (k : Nat) (c m : Str) (ps : List Str) (sp : Nat → Sp) : Prop :=
  ∃ fd, FnOkS P w K mg base k (He.ma K (He.ga K c) m) fd ps sp ∧ Binds K fd ps []
theorem fmS_mk {K : PySem.W.Frag} {mg : Str → Option Value} {P : Program} {w : World} {base : Heap} {k : Nat} {c m x qual : Str} {ps : List Str} {sp : Nat → Sp} {fd : FuncData} {params : Arguments} {body : List Stmt} {scope : Scope} (F : FunD K x qual params body scope [] [] (He.ma K (He.ga K c) m) fd)
    (hb : ∀ (kV doc pm : Value) (an : Option Addr) (cdv ct : Value) (us : List Value), us.length = ps.length → bindArgs (PySem.W.fnOf x qual params body scope .none kV doc pm an cdv ct) ⟨us, []⟩ = pure (ps.zip us))
    (h : FnOkS P w K mg base k (He.ma K (He.ga K c) m) fd ps sp) : FmS P w K mg base k c m ps sp := ⟨fd, h, F.bindsN hb⟩
end Sim

set_option maxHeartbeats 2000000
/-! a class with slots -/
namespace L2
open PySem PySem.Spec PyProof.Rows SlX
section
variable {X : Cx} {CX : CXT} {k : Nat} {f C : Addr} {fd : FuncData} {ps : List Str} {sp : Sp} {pins : List (Addr × Obj)} {σ : St} {H : Hp} {s : Shared} {ta tb : TE}
theorem fnR_of (F : FnOk X.prog X.w X.K X.mg X.base CX k f fd ps sp) (hb : Binds X.K fd ps []) : FnR X.prog X.w X.K X.mg X.base CX k f sp :=
  (F.raw hb .nil).imp fun vs H Q E h => by rw [List.append_nil]; exact h
/-- what stands right of an own comparison of a slotted instance -/
def NFsl (K : PySem.W.Frag) (C : Addr) (H : Hp) (y : V) : Prop := (∃ b dy ws, y = .ref b ∧ Slt H b C dy ws) ∨ ∃ t, TyX K H y t ∧ PySem.W.subIn K t (.ref C) = some false
theorem NFsl.looks {y : V} {u : Value} (h : NFsl X.K C H y) (I : Inv X pins σ H s) (ry : RelV y u) : ∃ tb, PySem.W.Looks (model X.prog X.w) s.heap (typeOf u) tb ∧ PySem.W.notFirst X.K C tb = true := by
  rcases h with ⟨b, dy, ws, rfl, hb⟩ | ⟨t, ty, hs⟩
  · cases ry
    obtain ⟨sl, od, r, J, _⟩ := slt_inst I hb
    exact ⟨.ref C, J.type, by simp [PySem.W.notFirst]⟩
  · obtain ⟨P, Z, hp, _⟩ := kit_of I ry ty
    exact ⟨t, Z.ty _ _ I.kIn hp, by simp [PySem.W.notFirst, hs]⟩
def rEqS (K : PySem.W.Frag) (C : Addr) (sp : Sp) : R2 := fun x y H Q => ∃ a dx vs, x = .ref a ∧ Slt H a C dx vs ∧ NFsl K C H y ∧ sp [.ref a, y] H Q E0
theorem op_eqS (F : FnOk X.prog X.w X.K X.mg X.base CX0 k f fd ps sp) (hr : Room k X.A) (M : Meth X.K C "__eq__" f) (hb : Binds X.K fd ps []) : OpR X (compareOp .Eq) (rEqS X.K C sp) := by
  intro pins s σ H x y v u Q I rx ry h
  obtain ⟨a, dx, vs, rfl, ha, hn, q⟩ := h
  cases rx
  obtain ⟨sl, od, r, J, _⟩ := slt_inst I ha
  obtain ⟨tb, lk, nf⟩ := hn.looks I ry
  obtain ⟨m, hF⟩ := I.fr
  show wpAny (model X.prog X.w) X.A (richCompare .Eq (.ref a) u) (EP X pins σ Q) X.xe s
  refine PySem.W.cmp_K (op := .Eq) (tb := tb) hr.units0 hF I.ok.mod.kin J lk nf M.at_ M.fn ?_
  refine wpAny_mono (run_sp (us := [.ref a, u]) (vs := [.ref a, y]) F hr rfl hb passAt0 I (.cons rfl (.cons ry .nil)) q) (fun v s' hv => ?_) fun _ _ z => z
  obtain ⟨z, H', I', rz, qz⟩ := hv
  exact back_ok (rel_ni rz) ⟨z, H', I', rz, qz⟩
end
end L2
namespace Sim
open PySem PySem.Spec PyProof.Rows L2 Evl SlX
abbrev Ps := List (Nat × Pd)
def PsAt (ps : Ps) (G : Hp) (vs : List (Option V)) : Prop := ∀ q ∈ ps, ∃ v, vs[q.1]? = some (some v) ∧ q.2.p G v
theorem PsAt.mono {ps : Ps} {G G' : Hp} {vs : List (Option V)} (e : Ex G G') (h : PsAt ps G vs) : PsAt ps G' vs := fun q hq => by
  obtain ⟨v, h1, h2⟩ := h q hq
  exact ⟨v, h1, q.2.mono e h2⟩
/-- an instance with slots, as data -/
def rSl {α : Type} (C : Addr) (fl : α → Ps) : Rep α := ⟨fun H v x => ∃ a dx vs, v = .ref a ∧ H a = some (SlO a C dx vs) ∧ H dx = some (.xd []) ∧ PsAt (fl x) H vs,
  fun e ⟨a, dx, vs, h1, h2, h3, h4⟩ => ⟨a, dx, vs, h1, e a _ h2, e dx _ h3, h4.mono e⟩⟩
def cN (C dx : Addr) : CP := ⟨fun _ o => o = .ins C dx [], fun _ h => h⟩
def cOw (x : Addr) : CP := ⟨fun _ o => o = .own x, fun _ h => h⟩
def cXd : CP := ⟨fun _ o => o = .xd [], fun _ h => h⟩
def cSl (x C dx : Addr) (ps : Ps) : CP := ⟨fun G o => ∃ vs, o = SlO x C dx vs ∧ PsAt ps G vs, fun e ⟨vs, h1, h2⟩ => ⟨vs, h1, h2.mono e⟩⟩
section
variable {K : PySem.W.Frag} {σ : L2.St} {G0 H0 G H G2 H2 W : Hp} {ls : List Addr} {cs : Cs} {l ld C : Addr} {ta : TA} {te to : TE} {α β γ ι : Type} {R : Rep α} {S : Rep β} {T : Rep γ} {A : AR ι} {D : Ends} {tz : TS} {fl : α → Ps}
theorem nnSl : (rSl C fl).NN := fun ⟨a, _, _, h, _⟩ => by rw [h]; simp
theorem PsAt.put {ps : Ps} {vs : List (Option V)} {n : Nat} {v : V} {q : Pd} (h : PsAt ps G vs) (hn : ∀ p ∈ ps, p.1 ≠ n) (r : q.p G v) : PsAt (ps ++ [(n, q)]) G (putS n v vs) := fun p hp => by
  rcases List.mem_append.mp hp with hp | hp
  · obtain ⟨w, h1, h2⟩ := h p hp
    exact ⟨w, (putS_ne (hn p hp)).mpr h1, h2⟩
  · rw [List.mem_singleton.mp hp]
    exact ⟨v, putS_get n v vs, r⟩
/-- self.f = e, the first slot -/
theorem x_sl1 {i j j2 n : Nat} {f : Str} {p : Addr} {m : Option β} {x : β} (w : Wo G0 H0 ls G H cs) (hc : cs[j]? = some (l, cN C ld)) (hd : cs[j2]? = some (ld, cOw l)) (hi : σ[i]? = some (some (.ref l))) (h : E te σ G H S m) (hm : m = some x) (hC : SCls K C) (hs : Slot1 K C f p n)
    (hj : j ≠ j2) (k : ∀ H2 G2, Wo G0 H0 ls G2 H2 ((cs.set j2 (ld, cXd)).set j (l, cSl l C ld [(n, pd S x)])) → Ex G G2 → tz D σ H2) : tSeq (sSl K (tVar i) te f) tz D σ H :=
  h x hm H w.ex (Ex.refl _) (fun y H1 => tVar i σ H1 fun x H2 => ∃ a C dx p vs i, x = .ref a ∧ Slt H2 a C dx vs ∧ SCls K C ∧ Slot1 K C f p i ∧ tz D σ (slH H2 a C dx (putS i y vs))) fun v H3 G3 u r => by
    have w3 := w.up u
    obtain ⟨_, o3, k2, k3⟩ := w3.w.getAt hc
    subst k3
    refine ⟨.ref l, hi, l, C, ld, p, [], n, rfl, .inl ⟨k2, rfl⟩, hC, hs, ?_⟩
    have w4 := w3.writeAt (cp' := cXd) (o := .xd []) hd rfl
    have hc' : (cs.set j2 (ld, cXd))[j]? = some (l, cN C ld) := by rw [List.getElem?_set_ne (Ne.symm hj)]; exact hc
    exact k _ _ (w4.writeAt (cp' := cSl l C ld [(n, pd S x)]) (o := SlO l C ld (putS n v [])) hc' ⟨_, rfl, fun q hq => by
      rw [List.mem_singleton.mp hq]
      exact ⟨v, putS_get n v [], r⟩⟩) u.gg
/-- self.f = e, a further slot -/
theorem x_slN {i j j2 n : Nat} {f : Str} {p : Addr} {m : Option β} {x : β} {ps : Ps} (w : Wo G0 H0 ls G H cs) (hc : cs[j]? = some (l, cSl l C ld ps)) (hd : cs[j2]? = some (ld, cXd)) (hi : σ[i]? = some (some (.ref l))) (h : E te σ G H S m) (hm : m = some x) (hC : SCls K C) (hs : Slot1 K C f p n)
    (hj : j ≠ j2) (hn : ∀ p ∈ ps, p.1 ≠ n) (k : ∀ H2 G2, Wo G0 H0 ls G2 H2 ((cs.set j2 (ld, cXd)).set j (l, cSl l C ld (ps ++ [(n, pd S x)]))) → Ex G G2 → tz D σ H2) : tSeq (sSl K (tVar i) te f) tz D σ H :=
  h x hm H w.ex (Ex.refl _) (fun y H1 => tVar i σ H1 fun x H2 => ∃ a C dx p vs i, x = .ref a ∧ Slt H2 a C dx vs ∧ SCls K C ∧ Slot1 K C f p i ∧ tz D σ (slH H2 a C dx (putS i y vs))) fun v H3 G3 u r => by
    have w3 := w.up u
    obtain ⟨_, o3, k2, vs, rfl, k3⟩ := w3.w.getAt hc
    obtain ⟨_, o4, d2, d3⟩ := w3.w.getAt hd
    subst d3
    refine ⟨.ref l, hi, l, C, ld, p, vs, n, rfl, .inr ⟨k2, d2⟩, hC, hs, ?_⟩
    have w4 := w3.writeAt (cp' := cXd) (o := .xd []) hd rfl
    have hc' : (cs.set j2 (ld, cXd))[j]? = some (l, cSl l C ld ps) := by rw [List.getElem?_set_ne (Ne.symm hj)]; exact hc
    exact k _ _ (w4.writeAt (cp' := cSl l C ld (ps ++ [(n, pd S x)])) (o := SlO l C ld (putS n v vs)) hc' ⟨_, rfl, k3.put hn r⟩) u.gg
/-- the promise of an __init__ that stores slots -/
def PIs (C : Addr) (A : AR ι) (fl : α → Ps) (f : ι → Option α) : Sp := fun vs H Q _ => ∃ G x dx ws i o, vs = .ref x :: ws ∧ Wd G H [(x, cN C dx), (dx, cOw x)] ∧ A.r G ws i ∧ f i = some o ∧
  ∀ H2 G2, Fr G H G2 H2 [x, dx] → Wd G2 H2 [(x, cSl x C dx (fl o)), (dx, cXd)] → Q .non H2
def PXIs (K : PySem.W.Frag) (C : Addr) (A : AR ι) (fl : α → Ps) (f : ι → Option (Xn ⊕ α)) : Sp := fun vs H Q E => ∃ G x dx ws i r, vs = .ref x :: ws ∧ Wd G H [(x, cN C dx), (dx, cOw x)] ∧ A.r G ws i ∧ f i = some r ∧
  (∀ e, r = .inl e → ∀ d H2 G2, Fr G H G2 H2 [x, dx] → Ex G2 H2 → Xat G2 e d → E (.ref (He.ga K e.cls)) (some d) H2) ∧
  (∀ o, r = .inr o → ∀ H2 G2, Fr G H G2 H2 [x, dx] → Wd G2 H2 [(x, cSl x C dx (fl o)), (dx, cXd)] → Q .non H2)
theorem new_slt {x dx : Addr} (e : Ex G H) (nx : H x = none) (ndx : H dx = none) (ne : dx ≠ x) : Wd G (upd (upd H dx (.own x)) x (.ins C dx [])) [(x, cN C dx), (dx, cOw x)] := by
  have nx' : (upd H dx (.own x)) x = none := by rw [upd_ne ne.symm]; exact nx
  have e1 : Ex G (upd H dx (.own x)) := e.trans (Ex.new ndx)
  exact ((Wd.nil e).new ndx rfl).new nx' rfl
theorem sl_freeze {x dx : Addr} {ps : Ps} (w : Wd G H [(x, cSl x C dx ps), (dx, cXd)]) : ∃ G2, Ex G G2 ∧ Ex G2 H ∧ (∀ a, a ≠ x → a ≠ dx → G a = none → G2 a = none) ∧ ∃ vs, G2 x = some (SlO x C dx vs) ∧ G2 dx = some (.xd []) ∧ PsAt ps G2 vs := by
  obtain ⟨h1, o, h2, vs, rfl, h3⟩ := w.head
  obtain ⟨d1, o2, d2, d3⟩ := w.tail.head
  subst d3
  have ne : dx ≠ x := fun z => by
    have := w.nd
    rw [z] at this
    simp at this
  have e2 : Ex G (upd (upd G dx (.xd [])) x (SlO x C dx vs)) := (Ex.new d1).trans (Ex.new (by rw [upd_ne ne.symm]; exact h1))
  refine ⟨_, e2, fun a u e => ?_, fun a n1 n2 h => by rw [upd_ne n1, upd_ne n2]; exact h, vs, upd_same, by rw [upd_ne ne]; exact upd_same, h3.mono e2⟩
  by_cases q : a = x
  · subst q; rw [upd_same] at e; cases e; exact h2
  · rw [upd_ne q] at e
    by_cases q2 : a = dx
    · subst q2; rw [upd_same] at e; cases e; exact d2
    · rw [upd_ne q2] at e; exact w.ex a u e
theorem e_makeS {f : ι → Option α} {mi : Option ι} {X : XK} (ha : EA ta σ G W A mi) : E (tMake C (PIs C A fl f) [] X ta) σ G W (rSl C fl) (mi >>= f) := fun z hz H e e' Q q => by
  obtain ⟨i, hi, hz⟩ := bindS hz
  refine ha i hi H e e' _ fun vs H1 G1 u1 r1 => ?_
  intro x dx nx ndx ne
  rw [List.append_nil]
  refine ⟨G1, x, dx, vs, i, z, rfl, new_slt u1.gh nx ndx ne, r1, hz, fun H2 G2 fr w2 => ⟨rfl, ?_⟩⟩
  obtain ⟨G3, k1, k2, k3, vs', k4, k5, k6⟩ := sl_freeze w2
  have hh : Ex H1 H2 := fun a o h => by
    have na : a ≠ x := ne_of_none h nx
    have nd : a ≠ dx := ne_of_none h ndx
    exact fr.fr a o (by rw [upd_ne na, upd_ne nd]; exact h) fun z => by simp [na, nd] at z
  have up : Up G1 H1 G3 H2 := ⟨fr.gg.trans k1, k2, hh, fun a h1 h2 => by
    have na : a ≠ x := fun z => by subst z; exact h1 nx
    have nd : a ≠ dx := fun z => by subst z; exact h1 ndx
    exact k3 a na nd (fr.nw a (by rw [upd_ne na, upd_ne nd]; exact h1) h2)⟩
  exact q _ H2 G3 (u1.trans up) ⟨x, dx, vs', rfl, k4, k5, k6⟩
theorem ex_makeS {f : ι → Option (Xn ⊕ α)} {mi : Option ι} {Wx : L2.St → XK} (ha : EA ta σ G W A mi) : EX K (tMakeT C (PXIs K C A fl f) Wx ta) σ G W (rSl C fl) (mi >>= f) (Wx σ) := fun z hz H e e' Q qx q => by
  obtain ⟨i, hi, hz⟩ := bindS hz
  refine ha i hi H e e' _ fun vs H1 G1 u1 r1 => ?_
  intro x dx nx ndx ne
  have hh : ∀ {G2 H2 : Hp}, Fr G1 (upd (upd H1 dx (.own x)) x (.ins C dx [])) G2 H2 [x, dx] → Ex H1 H2 := fun fr a o h => by
    have na : a ≠ x := ne_of_none h nx
    have nd : a ≠ dx := ne_of_none h ndx
    exact fr.fr a o (by rw [upd_ne na, upd_ne nd]; exact h) fun z => by simp [na, nd] at z
  have nn : ∀ {G2 H2 : Hp}, Fr G1 (upd (upd H1 dx (.own x)) x (.ins C dx [])) G2 H2 [x, dx] → ∀ a, H1 a ≠ none → G1 a = none → a ≠ x ∧ a ≠ dx ∧ G2 a = none := fun fr a h1 h2 => by
    have na : a ≠ x := fun z => by subst z; exact h1 nx
    have nd : a ≠ dx := fun z => by subst z; exact h1 ndx
    exact ⟨na, nd, fr.nw a (by rw [upd_ne na, upd_ne nd]; exact h1) h2⟩
  refine ⟨G1, x, dx, vs, i, z, rfl, new_slt u1.gh nx ndx ne, r1, hz, fun xn hx d H2 G2 fr ee xa => ?_, fun o ho H2 G2 fr w2 => ⟨rfl, ?_⟩⟩
  · exact qx xn hx d H2 G2 (u1.trans ⟨fr.gg, ee, hh fr, fun a h1 h2 => (nn fr a h1 h2).2.2⟩) xa
  · obtain ⟨G3, k1, k2, k3, vs', k4, k5, k6⟩ := sl_freeze w2
    exact q o ho _ H2 G3 (u1.trans ⟨fr.gg.trans k1, k2, hh fr, fun a h1 h2 => k3 a (nn fr a h1 h2).1 (nn fr a h1 h2).2.1 (nn fr a h1 h2).2.2⟩) ⟨x, dx, vs', rfl, k4, k5, k6⟩
/-- o.f -/
theorem e_sl {m : Option α} {f : Str} {p : Addr} {n : Nat} (g : α → β) (h : E to σ G W (rSl C fl) m) (hC : SCls K C) (hs : Slot1 K C f p n) (hp : ∀ x, (n, pd S (g x)) ∈ fl x) : E (tSl K to f) σ G W S (m >>= fun x => some (g x)) := fun z hz H e e' Q q => by
  obtain ⟨x, hx, hz⟩ := bindS hz
  cases hz
  refine h x hx H e e' _ fun v H1 G1 u r => ?_
  obtain ⟨a, dx, vs, rfl, h2, h3, h4⟩ := r
  obtain ⟨w, hw, r2⟩ := h4 _ (hp x)
  exact ⟨a, C, dx, p, vs, n, w, rfl, .inr ⟨u.gh a _ h2, u.gh dx _ h3⟩, hC, hs, hw, q w H1 G1 u r2⟩
/-- o.m(..) -/
theorem e_methS {m : Option α} {mi : Option ι} {f : α × ι → Option γ} {X : XK} (h : E to σ G W (rSl C fl) m) (ha : EA ta σ G W A mi) : E (tMethSl C (PF (aC (rSl C fl) A) T f) X to ta) σ G W T (m >>= fun o => mi >>= fun i => f (o, i)) := fun z hz H e e' Q q => by
  obtain ⟨x, hx, hz⟩ := bindS hz
  obtain ⟨y, hy, hz⟩ := bindS hz
  refine h x hx H e e' _ fun v H1 G1 u r => ?_
  obtain ⟨a, dx, us, rfl, h2, h3, h4⟩ := r
  refine ⟨a, dx, us, rfl, .inr ⟨u.gh a _ h2, u.gh dx _ h3⟩, ?_⟩
  refine (ha.mono u.gg (e'.trans u.hh)) y hy H1 u.gh (Ex.refl _) _ fun vs H3 G3 u3 r3 => ?_
  exact ⟨G3, (x, y), z, u3.gh, ⟨.ref a, vs, rfl, ⟨a, dx, us, rfl, u3.gg a _ h2, u3.gg dx _ h3, h4.mono u3.gg⟩, r3⟩, hz, fun v H4 G4 u4 r4 => q v H4 G4 ((u.trans u3).trans u4) r4⟩
theorem el_methS {m : Option α} {mi : Option ι} {f : α × ι → Option (List γ)} {X : XK} (h : E to σ G W (rSl C fl) m) (ha : EA ta σ G W A mi) : EL (tMethSl C (PL (aC (rSl C fl) A) T f) X to ta) σ G W T (m >>= fun o => mi >>= fun i => f (o, i)) := fun z hz H e e' Q q => by
  obtain ⟨x, hx, hz⟩ := bindS hz
  obtain ⟨y, hy, hz⟩ := bindS hz
  refine h x hx H e e' _ fun v H1 G1 u r => ?_
  obtain ⟨a, dx, us, rfl, h2, h3, h4⟩ := r
  refine ⟨a, dx, us, rfl, .inr ⟨u.gh a _ h2, u.gh dx _ h3⟩, ?_⟩
  refine (ha.mono u.gg (e'.trans u.hh)) y hy H1 u.gh (Ex.refl _) _ fun vs H3 G3 u3 r3 => ?_
  exact ⟨G3, (x, y), z, u3.gh, ⟨.ref a, vs, rfl, ⟨a, dx, us, rfl, u3.gg a _ h2, u3.gg dx _ h3, h4.mono u3.gg⟩, r3⟩, hz, fun p H4 G4 hp u4 r4 => q p H4 G4 (fresh_back (u.hh.trans u3.hh) hp) ((u.trans u3).trans u4) r4⟩
/-! own == -/
def Rep.NSl (S : Rep β) (K : PySem.W.Frag) (C : Addr) : Prop := ∀ {H : Hp} {v : V} {y : β}, S.r H v y → NFsl K C H v
theorem nslObj : (rSl C fl).NSl K C := fun ⟨a, dx, vs, h, h2, h3, _⟩ => .inl ⟨a, dx, vs, h, .inr ⟨h2, h3⟩⟩
theorem nslTy {n : String} (k : KTy S n) (h : PySem.W.subIn K (.type n) (.ref C) = some false) : S.NSl K C := fun r => .inr ⟨_, k r, h⟩
theorem rr_eqSl {f : α → β → Option Bool} (hS : S.NSl K C) : RR (rEqS K C (PF (aC (rSl C fl) (aC S aN)) rB fun i => f i.1 i.2.1)) (rSl C fl) S rB f := fun v w x y z H G hv hw hz e Q q => by
  obtain ⟨a, dx, vs, rfl, h2, h3, h4⟩ := hv
  exact ⟨a, dx, vs, rfl, .inr ⟨e a _ h2, e dx _ h3⟩, hS (S.mono e hw), G, (x, y, ()), z, e, ⟨_, _, rfl, ⟨a, dx, vs, rfl, h2, h3, h4⟩, _, _, rfl, hw, rfl⟩, hz, fun u H2 G2 up r => q u H2 G2 up r⟩
/-- isinstance -/
theorem e_isiS {D : Addr} {m : Option α} {b : Bool} (h : E te σ G W (rSl C fl) m) (hC : SCls K C) (hI : SIsi K C) (hk : PySem.W.kitOne K (.ref C) (.ref D) = some b) :
    E (tCB (rIsiSl K (.ref D)) (tCons te (tCons (tC (.ref D)) tNil))) σ G W rB (m >>= fun _ => some b) := fun z hz H e e' Q q => by
  obtain ⟨x, hx, hz⟩ := bindS hz
  cases hz
  refine h x hx H e e' _ fun v H1 G1 u r => ?_
  obtain ⟨a, dx, vs, rfl, h2, h3, _⟩ := r
  exact ⟨a, C, dx, vs, .ref D, _, rfl, rfl, fun w hw => hw, .inr ⟨u.gh a _ h2, u.gh dx _ h3⟩, hC, hI, hk, q _ H1 G1 u rfl⟩
end
/-! facts of the text -/
def sclB (C : Str) (K : PySem.W.Frag) : Bool := PySem.W.plainGet K (He.ga K C) Str.empty && (PySem.W.isClsIn K (He.ga K C) && (PySem.W.plainOver K (He.ga K C) && decide (PySem.W.findIn K (.ref (He.ga K C)) "__setattr__" = some (some (.builtin "object.__setattr__")))))
theorem scl_ok {C : Str} {K : PySem.W.Frag} (h : sclB C K = true) : SCls K (He.ga K C) := by
  obtain ⟨h1, h⟩ := He.ba h
  obtain ⟨h2, h⟩ := He.ba h
  obtain ⟨h3, h4⟩ := He.ba h
  exact ⟨h1, h2, h3, of_decide_eq_true h4⟩
def slotB (C f : Str) (i : Nat) (K : PySem.W.Frag) : Bool := decide (PySem.W.findIn K (.ref (He.ga K C)) f = some (some (.ref (He.ma K (He.ga K C) f)))) && (decide (PySem.W.specialIn K (.ref (He.ma K (He.ga K C) f)) "__get__" = some (some (.builtin "member_descriptor.__get__"))) &&
  (decide (PySem.W.takesIn K (.ref (He.ma K (He.ga K C) f)) = some true) && (decide (PySem.W.typeIn K (.ref (He.ma K (He.ga K C) f)) = some (.type "member_descriptor")) && (decide (PySem.W.slotIn K (He.ma K (He.ga K C) f) (He.ga K C) = some i) && decide (i < 1000)))))
theorem slot_ok {C f : Str} {i : Nat} {K : PySem.W.Frag} (h : slotB C f i K = true) : Slot1 K (He.ga K C) f (He.ma K (He.ga K C) f) i := by
  obtain ⟨h1, h⟩ := He.ba h
  obtain ⟨h2, h⟩ := He.ba h
  obtain ⟨h3, h⟩ := He.ba h
  obtain ⟨h4, h⟩ := He.ba h
  obtain ⟨h5, h6⟩ := He.ba h
  exact ⟨of_decide_eq_true h1, of_decide_eq_true h2, of_decide_eq_true h3, of_decide_eq_true h4, of_decide_eq_true h5, of_decide_eq_true h6⟩
def sisiB (C : Str) (K : PySem.W.Frag) : Bool := decide (PySem.W.findIn K (.ref (He.ga K C)) "__class__" = some (some (.builtin "object.__class__"))) && (decide (PySem.W.specialIn K (.builtin "object.__class__") "__get__" = some (some (.builtin "getset_descriptor.__get__"))) &&
  (decide (PySem.W.takesIn K (.builtin "object.__class__") = some true) && decide (PySem.W.mroIn K (He.ga K C) (.type "object") = some true)))
theorem sisi_ok {C : Str} {K : PySem.W.Frag} (h : sisiB C K = true) : SIsi K (He.ga K C) := by
  obtain ⟨h1, h⟩ := He.ba h
  obtain ⟨h2, h⟩ := He.ba h
  obtain ⟨h3, h4⟩ := He.ba h
  exact ⟨of_decide_eq_true h1, of_decide_eq_true h2, of_decide_eq_true h3, of_decide_eq_true h4⟩
end Sim

/-! cells of any kind; dicts; texts -/
namespace L2
open PySem PySem.Spec PyProof.Rows
section
variable {X : Cx}
def rMulS : R2 := fun x y H Q => ∃ z n, x = .str z ∧ y = .int n ∧ MulOk z n ∧ Q (.str (Txt.mul z n)) H
theorem op_mulS : OpR X (binaryOp .Mult) rMulS := by
  intro pins s σ H x y v u Q I rx ry h
  obtain ⟨z, n, rfl, rfl, hok, q⟩ := h
  obtain ⟨t, rfl⟩ := rx
  obtain ⟨t', rfl⟩ := ry
  exact SB.mul hok fun t2 k => ⟨.str _, H, I.tok _, ⟨_, rfl⟩, q⟩
abbrev rAddS : R2 := fun x y H Q => ∃ i j, x = .str i ∧ y = .str j ∧ i.length + j.length ≤ sizeLine ∧ Q (.str (i ++ j)) H
abbrev rStrI : List V → Hp → VK → Prop := fun xs H Q => ∃ i, xs = [.int i] ∧ i.natAbs.log2 < 1920 ∧ Q (.str (toString i)) H
abbrev rLsD : List V → Hp → VK → Prop := fun xs H Q => ∃ (a : Addr) (kvs : List (Key × V)), xs = [.ref a] ∧ Rd H a (.dK kvs) ∧ ∀ p, H p = none → Q (.ref p) (upd H p (.lst (kvs.map fun kv => kV kv.1)))
end
end L2
namespace Sim
open PySem L2 Evl
/-! ### texts -/
def addS (x y : Str) : Option Str := bif decide (x.length + y.length < 100000) then some (x ++ y) else none
def mulS (z : Str) (n : Int) : Option Str := bif decide (n < 100 ∧ -100 < n ∧ z.length < 1000) then some (Txt.mul z n) else none
def ixS (z : Str) (i : Int) : Option Str := bif decide (z.length < 100000) then (atI z.cps.toList i >>= fun c => some ⟨#[c]⟩) else none
def strI (i : Int) : Option Str := bif decide (i.natAbs < 2 ^ 64) then some (toString i : String) else none
theorem bifO1 {α : Type} {c : Prop} [Decidable c] {m : Option α} {z : α} (h : (bif decide c then m else none) = some z) : c ∧ m = some z := by
  cases hc : decide c with
  | false => rw [hc] at h; cases h
  | true => rw [hc] at h; exact ⟨of_decide_eq_true hc, h⟩
section
variable {K : PySem.W.Frag} {σ : L2.St} {G0 H0 G H G2 H2 W : Hp} {ls : List Addr} {cs : Cs} {l : Addr} {cp' : CP} {ta : TA} {te td ti tx : TE} {α β γ ι κ : Type} {R : Rep α} {S : Rep β} {T : Rep γ} {A : AR ι} {D : Ends} {tz : TS}
theorem rr_addS : RR rAddS rS rS rS (fun x y => addS x y) := fun v w x y z H G hv hw hz e Q q => by
  cases hv; cases hw
  obtain ⟨h, hz⟩ := bifO1 hz
  cases hz
  exact ⟨x, y, rfl, rfl, by rw [sizeLine_eq]; omega, q _ H G (Up.refl e) rfl⟩
theorem rr_mulS : RR rMulS rS rI rS (fun x y => mulS x y) := fun v w x y z H G hv hw hz e Q q => by
  cases hv; cases hw
  obtain ⟨⟨h1, h2, h3⟩, hz⟩ := bifO1 hz
  cases hz
  refine ⟨x, y, rfl, rfl, ⟨?_, fun h4 _ h5 => ?_, fun h4 _ => ?_⟩, q _ H G (Up.refl e) rfl⟩
  · rw [Bool.or_eq_false_iff]; exact ⟨decide_eq_false (by omega), decide_eq_false (by omega)⟩
  · have : (2 ^ 63 - 1 : Int) / y ≥ 1000 := by
      apply (Int.le_ediv_iff_mul_le (by omega)).mpr
      omega
    omega
  · have h6 : x.length * y.toNat ≤ 1000 * 100 := Nat.mul_le_mul (by omega) (by omega)
    exact decide_eq_false (by rw [sizeLine_eq]; omega)
theorem rr_ixS : RR rIxS rS rI rS (fun x y => ixS x y) := fun v w x y z H G hv hw hz e Q q => by
  cases hv; cases hw
  obtain ⟨h, hz⟩ := bifO1 hz
  obtain ⟨c, hc, hz⟩ := bindS hz
  cases hz
  exact ⟨x, y, c, rfl, rfl, by rw [sizeLine_eq]; omega, hc, q _ H G (Up.refl e) rfl⟩
theorem rc_strI : RC rStrI (aC rI aN) rS (fun i => strI i.1) := fun vs i z H G hv hz e Q q => by
  obtain ⟨v, ws, rfl, h1, rfl⟩ := hv
  cases h1
  obtain ⟨h, hz⟩ := bifO1 hz
  cases hz
  refine ⟨i.1, rfl, ?_, q _ H G (Up.refl e) rfl⟩
  by_cases h0 : i.1.natAbs = 0
  · rw [h0]; decide
  · have : i.1.natAbs.log2 < 64 := (Nat.log2_lt h0).mpr h
    omega
/-! ### cells of any kind -/
/-- what stands in such a cell is data once nobody changes it -/
def Fz (cp : β → CP) (S : Rep β) : Prop := ∀ {G G' : Hp} {l : Addr} {o : HO} {x : β}, (cp x).p G o → Ex G G' → G' l = some o → S.r G' (.ref l) x
def EC (te : TE) (σ : L2.St) (G W : Hp) (cp : β → CP) (m : Option β) : Prop :=
  ∀ x, m = some x → ∀ H, Ex G H → Ex W H → ∀ Q : VK, (∀ p H2 G2, H p = none → Up G H G2 H2 → Wd G2 H2 [(p, cp x)] → Q (.ref p) H2) → te σ H Q
variable {cp : β → CP}
theorem frzC {G H G1 H1 : Hp} {p : Addr} {x : β} (F : Fz cp S) (hp : H p = none) (u : Up G H G1 H1) (w : Wd G1 H1 [(p, cp x)]) : ∃ G2, Up G H G2 H1 ∧ S.r G2 (.ref p) x := by
  obtain ⟨h1, o, h2, h3⟩ := w.head
  refine ⟨upd G1 p o, u.frz hp (Ex.new h1) (fun a u' e => ?_) (fun a ne h => by rw [upd_ne ne]; exact h), F h3 (Ex.new h1) upd_same⟩
  by_cases q : a = p
  · subst q; rw [upd_same] at e; cases e; exact h2
  · rw [upd_ne q] at e; exact w.ex a u' e
theorem EC.e {m : Option β} (F : Fz cp S) (h : EC te σ G W cp m) : E te σ G W S m := fun x hx H e e' Q q => h x hx H e e' Q fun p H2 G2 hp u w => by
  obtain ⟨G3, u3, r3⟩ := frzC F hp u w
  exact q _ H2 G3 u3 r3
theorem Wo.newC {p : Addr} {c : CP} (w : Wo G0 H0 ls G H cs) (n : H p = none) (u : Up G H G2 H2) (w2 : Wd G2 H2 [(p, c)]) : Wo G0 H0 ls G2 H2 ((p, c) :: cs) := by
  have n0 : H0 p = none := by
    cases q : H0 p with
    | none => rfl
    | some o => exact absurd n (w.f.st p (by rw [q]; simp))
  have w3 := w.up u
  refine ⟨⟨w3.ex, fun c hc => ?_, ?_⟩, w3.f, fun c hc => ?_⟩
  · rcases List.mem_cons.mp hc with hc | hc
    · subst hc; exact w2.head
    · exact w3.w.at_ c hc
  · refine List.nodup_cons.mpr ⟨fun hm => ?_, w.w.nd⟩
    obtain ⟨c, hc, e⟩ := List.mem_map.mp hm
    obtain ⟨_, o', h2, _⟩ := w.w.at_ c hc
    exact ne_of_none h2 n e
  · rcases List.mem_cons.mp hc with hc | hc
    · subst hc; exact .inr n0
    · exact w.lo c hc
theorem c_c {m : Option β} {x : β} {Q : VK} (w : Wo G0 H0 ls G H cs) (h : EC te σ G H cp m) (hm : m = some x) (k : ∀ p H2 G2, H0 p = none → Wo G0 H0 ls G2 H2 ((p, cp x) :: cs) → Ex G G2 → Q (.ref p) H2) : te σ H Q :=
  h x hm H w.ex (Ex.refl _) Q fun p H2 G2 hp u w2 => k p H2 G2 (by
    cases q : H0 p with
    | none => rfl
    | some o => exact absurd hp (w.f.st p (by rw [q]; simp))) (w.newC hp u w2) u.gg
theorem x_setC {i : Nat} {m : Option β} {x : β} (w : Wo G0 H0 ls G H cs) (h : EC te σ G H cp m) (hm : m = some x) (k : ∀ p H2 G2, H0 p = none → Wo G0 H0 ls G2 H2 ((p, cp x) :: cs) → Ex G G2 → tz D (σ.set i (some (.ref p))) H2) : tSeq (tAsg te (gName i)) tz D σ H :=
  c_c (Q := fun x H1 => gName i x σ H1 (tz D)) w h hm k
theorem x_retC {m : Option β} {x : β} (w : Wo G0 H0 ls G H cs) (h : EC te σ G H cp m) (hm : m = some x) (k : ∀ p H2 G2, H0 p = none → Wo G0 H0 ls G2 H2 ((p, cp x) :: cs) → Ex G G2 → D.rt (.ref p) H2) : tSeq (tRet te) tz D σ H := c_c (Q := D.rt) w h hm k
theorem Wo.rCAt {i : Nat} {x : β} (F : Fz cp S) (w : Wo G0 H0 ls G H cs) (h : cs[i]? = some (l, cp x)) : S.r H (.ref l) x := by
  obtain ⟨h1, o, h2, h3⟩ := w.w.getAt h
  exact F h3 w.ex h2
theorem Wo.freezeC {i : Nat} {x : β} (F : Fz cp S) (w : Wo G0 H0 ls G H cs) (h : cs[i]? = some (l, cp x)) (hl : H0 l = none) : ∃ G2, Wo G0 H0 ls G2 H (cs.eraseIdx i) ∧ Ex G G2 ∧ S.r G2 (.ref l) x := by
  obtain ⟨h1, o, h2, h3⟩ := w.w.getAt h
  refine ⟨upd G l o, ⟨⟨fun a u e => ?_, fun c hc => ?_, ?_⟩, ⟨w.f.gg.trans (Ex.new h1), w.f.fr, fun a k1 k2 => ?_, w.f.st⟩, fun c hc => w.lo c (List.mem_of_mem_eraseIdx hc)⟩, Ex.new h1, F h3 (Ex.new h1) upd_same⟩
  · by_cases q : a = l
    · subst q; rw [upd_same] at e; cases e; exact h2
    · rw [upd_ne q] at e; exact w.ex a u e
  · obtain ⟨k1, o', k2, k3⟩ := w.w.at_ c (List.mem_of_mem_eraseIdx hc)
    have ne : c.1 ≠ l := fun z => by
      have hi : (cs.map (·.1))[i]? = some l := by rw [List.getElem?_map, h]; rfl
      obtain ⟨j, hj, e⟩ := List.mem_iff_getElem.mp hc
      have e : (cs.eraseIdx i)[j]? = some c := by rw [List.getElem?_eq_getElem hj, e]
      rw [List.getElem?_eraseIdx] at e
      split at e
      · rename_i hlt
        have : (cs.map (·.1))[j]? = some l := by rw [List.getElem?_map, e]; exact congrArg some z
        have := nodup_ix w.w.nd hi this
        omega
      · rename_i hlt
        have : (cs.map (·.1))[j + 1]? = some l := by rw [List.getElem?_map, e]; exact congrArg some z
        have := nodup_ix w.w.nd hi this
        omega
    exact ⟨by rw [upd_ne ne]; exact k1, o', k2, c.2.mono (Ex.new h1) k3⟩
  · exact List.Pairwise.sublist ((List.eraseIdx_sublist cs i).map (·.1)) w.w.nd
  · by_cases q : a = l
    · subst q; exact absurd hl k1
    · rw [upd_ne q]; exact w.f.nw a k1 k2
/-- a new cell is handed back -/
def PC {ι β : Type} (A : AR ι) (cp : β → CP) (f : ι → Option β) : Sp := fun vs H Q _ => ∃ G i x, Ex G H ∧ A.r G vs i ∧ f i = some x ∧ ∀ p H2 G2, H p = none → Up G H G2 H2 → Wd G2 H2 [(p, cp x)] → Q (.ref p) H2
def PMC {ι κ β : Type} (A : AR ι) (ci : ι → κ → Cs) (cp : β → CP) (f : ι → κ → Option (β × κ)) : Sp := fun vs H Q _ => ∃ G i k x k', A.r G vs i ∧ Wd G H (ci i k) ∧ f i k = some (x, k') ∧
  ∀ p H2 G2, H p = none → Fr G H G2 H2 ((ci i k).map (·.1)) → Wd G2 H2 ((p, cp x) :: ci i k') → Q (.ref p) H2
abbrev P1C {κ β ι : Type} (A : AR ι) (C : Rep κ) (cp : β → CP) (f : List κ → ι → Option (β × List κ)) : Sp := PMC (aC rA A) (fun i k => [(i.1, cL C k)]) cp (fun i k => f k i.2)
theorem c_p1c {C : Rep κ} {f : List κ → ι → Option (β × List κ)} {vs : List V} {i : Nat} {j : ι} {ys ys' : List κ} {x : β} {Q : VK} {X : XK} (w : Wo G0 H0 ls G H cs) (hc : cs[i]? = some (l, cL C ys)) (hv : A.r G vs j) (hz : f ys j = some (x, ys'))
    (k : ∀ p H2 G2, H0 p = none → Wo G0 H0 ls G2 H2 ((p, cp x) :: cs.set i (l, cL C ys')) → Ex G G2 → Q (.ref p) H2) : P1C A C cp f (.ref l :: vs) H Q X :=
  ⟨G, (l, j), ys, x, ys', ⟨.ref l, vs, rfl, rfl, hv⟩, w.sub1 hc, hz, fun p H2 G2 hp fr w2 => k p H2 G2 (by
    cases q : H0 p with
    | none => rfl
    | some o => exact absurd hp (w.f.st p (by rw [q]; simp))) (w.call1L hc hp fr w2) fr.gg⟩
theorem ec_call {f : ι → Option β} {m : Option ι} {X : XK} (ha : EA ta σ G W A m) : EC (tCall (PC A cp f) [] X ta) σ G W cp (m >>= f) := fun z hz H e e' Q q => by
  obtain ⟨i, hi, hz⟩ := bindS hz
  refine ha i hi H e e' _ fun vs H1 G1 u1 r1 => ?_
  rw [List.append_nil]
  exact ⟨G1, i, z, u1.gh, r1, hz, fun p H2 G2 hp u2 w => q p H2 G2 (fresh_back u1.hh hp) (u1.trans u2) w⟩
/-! ### dicts -/
variable {κ : Type} [DecidableEq κ] {kf : κ → Key}
def Pm (kf : κ → Key) (R : Rep α) (G : Hp) : List (Key × V) → List (κ × α) → Prop := Paired (fun (p : Key × V) (q : κ × α) => p.1 = kf q.1 ∧ R.r G p.2 q.2)
def cM (kf : κ → Key) (R : Rep α) (kvs : List (κ × α)) : CP := ⟨fun G o => ∃ ws, o = .dK ws ∧ Pm kf R G ws kvs, fun e ⟨ws, h1, h2⟩ => ⟨ws, h1, Paired.mapP h2 fun _ _ h => ⟨h.1, R.mono e h.2⟩⟩⟩
theorem fzM : Fz (cM kf R) (rM kf R) := fun ⟨ws, h1, h2⟩ e h => ⟨_, ws, rfl, by rw [h, h1], Paired.mapP h2 fun _ _ h => ⟨h.1, R.mono e h.2⟩⟩
theorem fzL : Fz (cL R) (rL R) := fun ⟨vs, h1, h2⟩ e h => ⟨_, vs, rfl, by rw [h, h1], Paired.mapP h2 fun _ _ h => R.mono e h⟩
theorem ec_dnew : EC tDNewK σ G W (cM kf R) (some []) := fun z hz H e e' Q q => by
  cases hz
  intro p hp
  exact q p (upd H p (.dK [])) G hp (up_new e hp) ((Wd.nil e).new hp ⟨[], rfl, .nil⟩)
def lookM (kvs : List (κ × α)) (k : κ) : Option α := (kvs.find? fun q => decide (q.1 = k)).map (·.2)
def putM (kvs : List (κ × α)) (k : κ) (x : α) : List (κ × α) := if (kvs.any fun q => decide (q.1 = k)) = true then kvs.map (fun q => if q.1 = k then (q.1, x) else q) else kvs ++ [(k, x)]
def putMM (kvs : List (κ × α)) (k : κ) (x : α) : Option (List (κ × α)) := bif decide (kvs.length < 100000) then some (putM kvs k x) else none
abbrev Inj (kf : κ → Key) : Prop := ∀ a b, kf a = kf b → a = b
theorem injS : Inj (Sum.inr : Str → Key) := fun _ _ h => Sum.inr.inj h
theorem injI : Inj (Sum.inl : Int → Key) := fun _ _ h => Sum.inl.inj h
theorem pm_look (hj : Inj kf) (k : κ) : ∀ {ws : List (Key × V)} {kvs : List (κ × α)}, Pm kf R G ws kvs → (lookM kvs k = none ∧ valV ws (kf k) = none) ∨ ∃ v x, lookM kvs k = some x ∧ valV ws (kf k) = some v ∧ R.r G v x
  | _, _, .nil => .inl ⟨rfl, rfl⟩
  | _, _, .cons (a := p) (b := q) h t => by
    by_cases e : q.1 = k
    · exact .inr ⟨p.2, q.2, by simp [lookM, List.find?_cons, e], by rw [valV_pos (by rw [h.1, e])], h.2⟩
    · have e' : ¬ p.1 = kf k := fun z => e (hj _ _ (h.1.symm.trans z))
      have e1 : ∀ kvs : List (κ × α), lookM (q :: kvs) k = lookM kvs k := fun kvs => by unfold lookM; rw [List.find?_cons, decide_eq_false e]
      rw [e1, valV_neg e']
      exact pm_look hj k t
theorem pm_any (hj : Inj kf) (k : κ) : ∀ {ws : List (Key × V)} {kvs : List (κ × α)}, Pm kf R G ws kvs → (ws.any fun q => decide (q.1 = kf k)) = kvs.any fun q => decide (q.1 = k)
  | _, _, .nil => rfl
  | _, _, .cons (a := p) (b := q) h t => by
    rw [List.any_cons, List.any_cons, pm_any hj k t, h.1]
    congr 1
    by_cases e : q.1 = k
    · rw [decide_eq_true e, decide_eq_true (by rw [e])]
    · rw [decide_eq_false e, decide_eq_false fun z => e (hj _ _ z)]
theorem pm_map (hj : Inj kf) (k : κ) {v : V} {x : α} (r : R.r G v x) : ∀ {ws : List (Key × V)} {kvs : List (κ × α)}, Pm kf R G ws kvs → Pm kf R G (ws.map fun q => if q.1 = kf k then (q.1, v) else q) (kvs.map fun q => if q.1 = k then (q.1, x) else q)
  | _, _, .nil => .nil
  | _, _, .cons (a := p) (b := q) h t => by
    refine .cons ?_ (pm_map hj k r t)
    show (if p.1 = kf k then (p.1, v) else p).1 = kf (if q.1 = k then (q.1, x) else q).1 ∧ R.r G (if p.1 = kf k then (p.1, v) else p).2 (if q.1 = k then (q.1, x) else q).2
    by_cases e : q.1 = k
    · rw [if_pos (by rw [h.1, e]), if_pos e]; exact ⟨h.1, r⟩
    · rw [if_neg fun z => e (hj _ _ (h.1.symm.trans z)), if_neg e]; exact h
theorem pm_app : ∀ {ws : List (Key × V)} {kvs : List (κ × α)} {ws' : List (Key × V)} {kvs' : List (κ × α)}, Pm kf R G ws kvs → Pm kf R G ws' kvs' → Pm kf R G (ws ++ ws') (kvs ++ kvs')
  | _, _, _, _, .nil, h => h
  | _, _, _, _, .cons r t, h => .cons r (pm_app t h)
theorem pm_put (hj : Inj kf) {k : κ} {v : V} {x : α} (r : R.r G v x) {ws : List (Key × V)} {kvs : List (κ × α)} (h : Pm kf R G ws kvs) : Pm kf R G (putK ws (kf k) v) (putM kvs k x) := by
  unfold putK putM
  rw [pm_any hj k h]
  split
  · exact pm_map hj k r h
  · exact pm_app h (.cons ⟨rfl, r⟩ .nil)
theorem pm_at {ws : List (Key × V)} {kvs : List (κ × α)} (e : Ex G H) (h : Pm kf R G ws kvs) : Pm kf R H ws kvs := Paired.mapP h fun _ _ h => ⟨h.1, R.mono e h.2⟩
/-- how a key stands -/
structure KyR (kf : κ → Key) (S : Rep κ) : Prop where
  v : ∀ {H : Hp} {v : V} {k : κ}, S.r H v k → v = kV (kf k)
theorem kyS : KyR Sum.inr rS := ⟨fun h => h⟩
theorem kyI : KyR Sum.inl rI := ⟨fun h => h⟩
/-- d[k] = e, d a cell -/
theorem x_putM {a j : Nat} {Sk : Rep κ} {m : Option α} {mk : Option κ} {x : α} {k : κ} {kvs kvs' : List (κ × α)} (ky : KyR kf Sk) (hj : Inj kf) (w : Wo G0 H0 ls G H cs) (hc : cs[j]? = some (l, cM kf R kvs)) (hi : σ[a]? = some (some (.ref l))) (h : E te σ G H R m) (hm : m = some x)
    (h' : E ti σ G H Sk mk) (hm' : mk = some k) (hy : putMM kvs k x = some kvs') (kk : ∀ H2 G2, Wo G0 H0 ls G2 H2 (cs.set j (l, cM kf R kvs')) → Ex G G2 → tz D σ H2) : tSeq (sDPut (tVar a) ti te) tz D σ H :=
  h x hm H w.ex (Ex.refl _) (fun v H1 => tVar a σ H1 fun x H2 => ti σ H2 fun y H3 => ∃ a H4, x = .ref a ∧ DPut H3 a y v H4 ∧ tz D σ H4) fun v H3 G3 u r => by
    have w3 := w.up u
    refine ⟨.ref l, hi, (h'.mono u.gg u.hh) k hm' H3 w3.ex (Ex.refl _) _ fun v' H4 G4 u' r' => ?_⟩
    have w4 := w3.up u'
    obtain ⟨_, o, k2, ws, rfl, k3⟩ := w4.w.getAt hc
    obtain ⟨hl, hy⟩ := bifO1 hy
    cases hy
    rw [ky.v r']
    refine ⟨l, _, rfl, DPut.k k2 (by rw [k3.length, sizeLine_eq]; omega), ?_⟩
    exact kk _ _ (w4.writeAt hc ⟨_, rfl, pm_put hj (R.mono u'.gg r) k3⟩) (u.gg.trans u'.gg)
theorem x_putO {a : Nat} (h : te σ H fun v H1 => tVar a σ H1 fun x H2 => ti σ H2 fun y H3 => ∃ a H4, x = .ref a ∧ DPut H3 a y v H4 ∧ tz D σ H4) : tSeq (sDPut (tVar a) ti te) tz D σ H := h
theorem o_putM {a j : Nat} {Sk : Rep κ} {mk : Option κ} {x : α} {v : V} {k : κ} {kvs kvs' : List (κ × α)} (ky : KyR kf Sk) (hj : Inj kf) (w : Wo G0 H0 ls G H cs) (hc : cs[j]? = some (l, cM kf R kvs)) (hi : σ[a]? = some (some (.ref l))) (r : R.r G v x)
    (h' : E ti σ G H Sk mk) (hm' : mk = some k) (hy : putMM kvs k x = some kvs') (kk : ∀ H2 G2, Wo G0 H0 ls G2 H2 (cs.set j (l, cM kf R kvs')) → Ex G G2 → tz D σ H2) :
    tVar a σ H fun x H2 => ti σ H2 fun y H3 => ∃ a H4, x = .ref a ∧ DPut H3 a y v H4 ∧ tz D σ H4 :=
  ⟨.ref l, hi, h' k hm' H w.ex (Ex.refl _) _ fun v' H4 G4 u' r' => by
    have w4 := w.up u'
    obtain ⟨_, o, k2, ws, rfl, k3⟩ := w4.w.getAt hc
    obtain ⟨hl, hy⟩ := bifO1 hy
    cases hy
    rw [ky.v r']
    refine ⟨l, _, rfl, DPut.k k2 (by rw [k3.length, sizeLine_eq]; omega), ?_⟩
    exact kk _ _ (w4.writeAt hc ⟨_, rfl, pm_put hj (R.mono u'.gg r) k3⟩) u'.gg⟩
/-- d[k] -/
theorem e_dget {Sk : Rep κ} {m : Option (List (κ × α))} {mk : Option κ} (ky : KyR kf Sk) (hj : Inj kf) (h : E td σ G W (rM kf R) m) (h' : E ti σ G W Sk mk) : E (tDGet td ti) σ G W R (m >>= fun d => mk >>= fun k => lookM d k) := fun z hz H e e' Q q => by
  obtain ⟨d, hd, hz⟩ := bindS hz
  obtain ⟨k, hk, hz⟩ := bindS hz
  refine h d hd H e e' _ fun v H1 G1 u r => ?_
  refine (h'.mono u.gg (e'.trans u.hh)) k hk H1 u.gh (Ex.refl _) _ fun v' H2 G2 u2 r2 => ?_
  obtain ⟨a, ws, rfl, k2, k3⟩ := (rM kf R).mono u2.gg r
  rcases pm_look hj k k3 with ⟨e1, _⟩ | ⟨w, x, e1, e2, r3⟩
  · rw [e1] at hz; cases hz
  · rw [e1] at hz
    cases hz
    rw [ky.v r2]
    exact ⟨a, w, rfl, by rw [← e2]; exact DGet.k (u2.gh a _ k2), q w H2 G2 (u.trans u2) r3⟩
/-- d.get(k, x) -/
theorem e_dget2 {Sk : Rep κ} {m : Option (List (κ × α))} {mk : Option κ} {mx : Option α} (ky : KyR kf Sk) (hj : Inj kf) (h : E td σ G W (rM kf R) m) (h' : E ti σ G W Sk mk) (hx : E tx σ G W R mx) :
    E (tDGet2 td ti tx) σ G W R (m >>= fun d => mk >>= fun k => mx >>= fun x => some ((lookM d k).getD x)) := fun z hz H e e' Q q => by
  obtain ⟨d, hd, hz⟩ := bindS hz
  obtain ⟨k, hk, hz⟩ := bindS hz
  obtain ⟨x, hx', hz⟩ := bindS hz
  cases hz
  refine h d hd H e e' _ fun v H1 G1 u r => ?_
  obtain ⟨a, ws, rfl, k2, k3⟩ := r
  refine ⟨a, rfl, .inl ⟨ws, .inl (u.gh a _ k2)⟩, ?_⟩
  refine (h'.mono u.gg (e'.trans u.hh)) k hk H1 u.gh (Ex.refl _) _ fun v' H2 G2 u2 r2 => ?_
  refine (hx.mono (u.gg.trans u2.gg) ((e'.trans u.hh).trans u2.hh)) x hx' H2 u2.gh (Ex.refl _) _ fun v3 H3 G3 u3 r3 => ?_
  rw [ky.v r2]
  refine ⟨_, DGet.k (u3.gh a _ (u3.gg a _ (u2.gg a _ k2))), ?_⟩
  rcases pm_look hj k (pm_at (u2.gg.trans u3.gg) k3) with ⟨e1, e2⟩ | ⟨w, y, e1, e2, r4⟩
  · rw [e1] at q; rw [e2]; exact q v3 H3 G3 ((u.trans u2).trans u3) r3
  · rw [e1] at q; rw [e2]; exact q w H3 G3 ((u.trans u2).trans u3) r4
/-- k in d -/
theorem e_din {Sk : Rep κ} {m : Option (List (κ × α))} {mk : Option κ} (ky : KyR kf Sk) (hj : Inj kf) (h' : E ti σ G W Sk mk) (h : E td σ G W (rM kf R) m) : E (tDIn ti td) σ G W rB (mk >>= fun k => m >>= fun d => some (lookM d k).isSome) := fun z hz H e e' Q q => by
  obtain ⟨k, hk, hz⟩ := bindS hz
  obtain ⟨d, hd, hz⟩ := bindS hz
  cases hz
  refine h' k hk H e e' _ fun v' H1 G1 u r2 => ?_
  refine (h.mono u.gg (e'.trans u.hh)) d hd H1 u.gh (Ex.refl _) _ fun v H2 G2 u2 r => ?_
  obtain ⟨a, ws, rfl, k2, k3⟩ := r
  rw [ky.v r2]
  refine ⟨a, _, rfl, DGet.k (u2.gh a _ k2), ?_⟩
  rcases pm_look hj k k3 with ⟨e1, e2⟩ | ⟨w, y, e1, e2, r4⟩ <;> (rw [e1] at q; rw [e2]; exact q _ H2 G2 (u.trans u2) rfl)
theorem e_dnotin {Sk : Rep κ} {m : Option (List (κ × α))} {mk : Option κ} (ky : KyR kf Sk) (hj : Inj kf) (h' : E ti σ G W Sk mk) (h : E td σ G W (rM kf R) m) : E (tDNotIn ti td) σ G W rB (mk >>= fun k => m >>= fun d => some (!(lookM d k).isSome)) := fun z hz H e e' Q q => by
  obtain ⟨k, hk, hz⟩ := bindS hz
  obtain ⟨d, hd, hz⟩ := bindS hz
  cases hz
  refine h' k hk H e e' _ fun v' H1 G1 u r2 => ?_
  refine (h.mono u.gg (e'.trans u.hh)) d hd H1 u.gh (Ex.refl _) _ fun v H2 G2 u2 r => ?_
  obtain ⟨a, ws, rfl, k2, k3⟩ := r
  rw [ky.v r2]
  refine ⟨a, _, rfl, DGet.k (u2.gh a _ k2), ?_⟩
  rcases pm_look hj k k3 with ⟨e1, e2⟩ | ⟨w, y, e1, e2, r4⟩ <;> (rw [e1] at q; rw [e2]; exact q _ H2 G2 (u.trans u2) rfl)
/-- list(d) -/
theorem rc_listM {Sk : Rep κ} (hk : ∀ (G : Hp) (k : κ), Sk.r G (kV (kf k)) k) : RCL rLsD (aC (rM kf R) aN) Sk (fun i => some (i.1.map (·.1))) := fun vs i z H G hv hz e Q q => by
  cases hz
  obtain ⟨d, ⟨⟩⟩ := i
  obtain ⟨v, ws, rfl, ⟨a, us, rfl, h2, h3⟩, rfl⟩ := hv
  refine ⟨a, us, rfl, .inl (e a _ h2), fun p hp => q p _ G hp (up_new e hp) (wd_new e hp ?_)⟩
  clear h2 q
  replace h3 : Paired (fun (p : Key × V) (q : κ × α) => p.1 = kf q.1 ∧ R.r G p.2 q.2) us d := h3
  induction h3 with
  | nil => exact .nil
  | cons h t ih =>
    rename_i a1 b1 _ _
    refine .cons ?_ ih
    show Sk.r G (kV a1.1) b1.1
    rw [h.1]; exact hk _ _
theorem kyrS (G : Hp) (k : Str) : rS.r G (kV (Sum.inr k)) k := rfl
theorem kyrI (G : Hp) (k : Int) : rI.r G (kV (Sum.inl k)) k := rfl
/-- d != e of equal ones (values: ints) -/
def sameM (d e : List (κ × Int)) : Bool := decide (d.length = e.length) && d.all fun p => decide (lookM e p.1 = some p.2)
theorem rr_neM (hj : Inj kf) : RR rNeDA (rM kf rI) (rM kf rI) rB (fun d e => bif sameM d e then some false else none) := fun v w d e' z H G hv hw hz e Q q => by
  obtain ⟨a, ws, rfl, h2, h3⟩ := hv
  obtain ⟨b, us, rfl, k2, k3⟩ := hw
  replace hz : (bif sameM d e' then some false else none) = some z := hz
  cases hb : sameM d e' with
  | false => rw [hb] at hz; cases hz
  | true =>
    rw [hb] at hz
    cases hz
    obtain ⟨b1, b2⟩ := Bool.and_eq_true_iff.mp hb
    replace b1 := of_decide_eq_true b1
    refine ⟨a, b, ws, us, rfl, rfl, e a _ h2, e b _ k2, by rw [h3.length, k3.length]; exact b1, ?_, q _ H G (Up.refl e) rfl⟩
    have b3 : ∀ q ∈ d, lookM e' q.1 = some q.2 := fun q hq => of_decide_eq_true (List.all_eq_true.mp b2 q hq)
    clear hb b2 b1 h2
    induction h3 with
    | nil => intro p hp; cases hp
    | cons h t ih =>
      rename_i p' q' ws' d'
      intro p hp
      rcases List.mem_cons.mp hp with rfl | hp
      · have := b3 q' (List.mem_cons_self ..)
        rcases pm_look hj q'.1 k3 with ⟨e1, _⟩ | ⟨w, y, e1, e2, r4⟩
        · rw [e1] at this; cases this
        · rw [e1] at this
          cases this
          rw [h.1, e2]
          have r5 : p.2 = V.int q'.2 := h.2
          have r6 : w = V.int q'.2 := r4
          rw [r5, r6]
          exact ⟨rfl, rfl⟩
      · exact ih (fun q hq => b3 q (List.mem_cons_of_mem _ hq)) p hp
end
end Sim

/-! displays and making of objects, opened -/
namespace Sim
open PySem L2 Evl
section
variable {K : PySem.W.Frag} {C : Addr} {σ : L2.St} {G0 H0 G H G2 H2 W : Hp} {ls : List Addr} {cs : Cs} {l : Addr} {ta : TA} {sp : Sp} {dvs : List V} {X : XK} {Q : VK} {α β ι : Type} {R : Rep α} {S : Rep β} {A : AR ι}
def tK (vs : List V) : TA := fun _ H Q => Q vs H
theorem ea_k {vs : List V} {i : ι} (h : A.r G vs i) : EA (tK vs) σ G W A (some i) := fun x hx H e e' Q q => by
  cases hx
  exact q vs H G (Up.refl e) h
theorem o_make (h : ta σ H fun vs H1 => tMake C sp dvs X (tK vs) σ H1 Q) : tMake C sp dvs X ta σ H Q := h
theorem o_tup (h : ta σ H fun vs H1 => tTup (tK vs) σ H1 Q) : tTup ta σ H Q := h
theorem c_makeS {fl : α → Ps} {f : ι → Option α} {vs : List V} {i : ι} {z : α} (w : Wo G0 H0 ls G H cs) (hv : A.r G vs i) (hz : f i = some z)
    (k : ∀ v H2 G2, Wo G0 H0 ls G2 H2 cs → Ex G G2 → (rSl C fl).r G2 v z → Q v H2) : tMake C (PIs C A fl f) [] X (tK vs) σ H Q := c_e w (e_makeS (ea_k hv)) (show f i = some z from hz) k
theorem c_makeN {ns : List Str} {fl : α → List Pd} {f : ι → Option α} {vs : List V} {i : ι} {z : α} (w : Wo G0 H0 ls G H cs) (hv : A.r G vs i) (hz : f i = some z)
    (k : ∀ v H2 G2, Wo G0 H0 ls G2 H2 cs → Ex G G2 → (rObj C ns fl).r G2 v z → Q v H2) : tMake C (PI C A ns fl f) [] X (tK vs) σ H Q := c_e w (e_make (ea_k hv)) (show f i = some z from hz) k
theorem c_pairO {v u : V} {x : α} {y : β} (w : Wo G0 H0 ls G H cs) (hx : R.r G v x) (hy : S.r G u y) (k : ∀ v H2 G2, Wo G0 H0 ls G2 H2 cs → Ex G G2 → (rP R S).r G2 v (x, y) → Q v H2) : tTup (tK [v, u]) σ H Q := by
  refine ⟨by show 2 ≤ sizeLine; decide, fun p hp => k _ _ _ (w.up (Up.lay w.ex hp)) (Ex.new (fresh_back w.ex hp)) ⟨p, v, u, rfl, upd_same, R.mono ?_ hx, S.mono ?_ hy⟩⟩
  · exact Ex.new (fresh_back w.ex hp)
  · exact Ex.new (fresh_back w.ex hp)
end
end Sim

/-! slices of lists, f-strings, join -/
namespace Sim
open PySem L2 Evl
section
variable {K : PySem.W.Frag} {σ : L2.St} {G H W : Hp} {te to : TE} {tl th : TO} {α : Type} {R : Rep α}
def EO (t : TO) (σ : L2.St) (G W : Hp) (m : Option (Option Int)) : Prop := ∀ o, m = some o → ∀ H, Ex G H → Ex W H → ∀ Q : Option Int → Hp → Prop, (∀ H2, Ex H H2 → Q o H2) → t σ H Q
theorem eo_no : EO tNoPart σ G W (some none) := fun o ho H _ _ Q q => by
  cases ho
  exact q H (Ex.refl _)
theorem eo_at {m : Option Int} (h : E te σ G W rI m) : EO (tPart te) σ G W (m >>= fun i => some (some i)) := fun o ho H e e' Q q => by
  obtain ⟨i, hi, ho⟩ := bindS ho
  cases ho
  refine h i hi H e e' _ fun v H2 G2 u r => ?_
  exact ⟨i, r, q H2 u.hh⟩
def cutM (xs : List α) (lo hi : Option Int) : List α := (xs.drop (HT.sIx xs.length 0 lo)).take (HT.sIx xs.length xs.length hi - HT.sIx xs.length 0 lo)
theorem pr_cut {P : V → α → Prop} {vs : List V} {xs : List α} (lo hi : Option Int) (h : Paired P vs xs) : Paired P (cutV vs lo hi) (cutM xs lo hi) := by
  unfold cutV cutM
  rw [h.length]
  exact pr_take _ (pr_drop _ h)
theorem el_slice {m : Option (List α)} {ml mh : Option (Option Int)} (h : E te σ G W (rL R) m) (hl : EO tl σ G W ml) (hh : EO th σ G W mh) : EL (tSl (rSlL K) te tl th) σ G W R (m >>= fun xs => ml >>= fun lo => mh >>= fun hi => some (cutM xs lo hi)) := fun z hz H e e' Q q => by
  obtain ⟨xs, hx, hz⟩ := bindS hz
  obtain ⟨lo, hlo, hz⟩ := bindS hz
  obtain ⟨hi, hhi, hz⟩ := bindS hz
  cases hz
  refine h xs hx H e e' _ fun v H1 G1 u r => ?_
  refine hl lo hlo H1 (e.trans u.hh) (e'.trans u.hh) _ fun H2 x2 => ?_
  refine hh hi hhi H2 (e.trans (u.hh.trans x2)) (e'.trans (u.hh.trans x2)) _ fun H3 x3 => ?_
  obtain ⟨a, vs, rfl, h2, h3⟩ := r
  have x := x2.trans x3
  have u1 := u.trans (Up.same u.gh x)
  exact ⟨a, vs, rfl, .inl (.inl (x a _ (u.gh a _ h2))), fun p hp => q p _ G1 (fresh_back u1.hh hp) (u1.trans (up_new u1.gh hp)) (wd_new u1.gh hp (pr_cut lo hi h3))⟩
/-! f-strings -/
def fjS : List (Option Str) → Str → Option Str
  | [], acc => some acc
  | m :: ms, acc => m >>= fun y => addS acc y >>= fjS ms
def EJ (ts : List TE) (σ : L2.St) (G W : Hp) (ms : List (Option Str)) : Prop := ∀ acc z, fjS ms acc = some z → ∀ H, Ex G H → Ex W H → ∀ Q : Str → Hp → Prop, (∀ H2, Ex H H2 → Q z H2) → tJs ts acc σ H Q
theorem ej_nil : EJ [] σ G W [] := fun acc z hz H e e' Q q => by
  cases hz
  exact q H (Ex.refl _)
theorem ej_cons {m : Option Str} {ms : List (Option Str)} {ts : List TE} (h : E te σ G W rS m) (hr : EJ ts σ G W ms) : EJ (te :: ts) σ G W (m :: ms) := fun acc z hz H e e' Q q => by
  obtain ⟨y, hy, hz⟩ := bindS hz
  obtain ⟨w, hw, hz⟩ := bindS hz
  obtain ⟨hl, hw⟩ := bifO1 hw
  cases hw
  refine h y hy H e e' _ fun v H1 G1 u r => ?_
  refine ⟨y, r, by rw [PySem.Str.length_append, sizeLine_eq]; omega, hr _ z hz H1 (e.trans u.hh) (e'.trans u.hh) Q fun H2 x => q H2 (u.hh.trans x)⟩
abbrev tFj (ts : List TE) : TE := fun σ H Q => tJs ts Str.empty σ H fun out H1 => Q (.str out) H1
theorem e_fj {ms : List (Option Str)} {ts : List TE} (h : EJ ts σ G W ms) : E (tFj ts) σ G W rS (fjS ms Str.empty) := fun z hz H e e' Q q =>
  h _ z hz H e e' _ fun H2 x => q _ H2 G (Up.same e x) rfl
def szS (y : Str) : Option Str := bif decide (y.length < 100000) then some y else none
theorem e_fmtS {m : Option Str} (h : E te σ G W rS m) : E (tFmt te) σ G W rS (m >>= fun y => szS y) := fun z hz H e e' Q q => by
  obtain ⟨y, hy, hz⟩ := bindS hz
  obtain ⟨hl, hz⟩ := bifO1 hz
  have hz := Option.some.inj hz
  subst hz
  refine h y hy H e e' _ fun v H1 G1 u r => ?_
  exact .inl ⟨y, r, by rw [sizeLine_eq]; omega, q _ H1 G1 u rfl⟩
theorem e_fmtI {m : Option Int} (h : E te σ G W rI m) : E (tFmt te) σ G W rS (m >>= fun y => strI y) := fun z hz H e e' Q q => by
  obtain ⟨y, hy, hz⟩ := bindS hz
  obtain ⟨hl, hz⟩ := bifO1 hz
  have hz := Option.some.inj hz
  subst hz
  refine h y hy H e e' _ fun v H1 G1 u r => ?_
  refine .inr ⟨y, r, ?_, q _ H1 G1 u rfl⟩
  by_cases h0 : y.natAbs = 0
  · rw [h0]; decide
  · have : y.natAbs.log2 < 64 := (Nat.log2_lt h0).mpr hl
    omega
/-! join -/
abbrev rJoinS (K : PySem.W.Frag) : V → List V → Hp → VK → Prop := fun x xs H Q => ∃ a p, ∃ ys : List Str, x = .str a ∧ xs = [.ref p] ∧ (SqL K H p (ys.map V.str) ∨ SqT K H p (ys.map V.str)) ∧
  (ys.map (·.length)).sum + ys.length * a.length ≤ 16777216 ∧ Q (.str (Txt.join a ys)) H
def joinS (a : Str) (ys : List Str) : Option Str := bif decide ((ys.map (·.length)).sum + ys.length * a.length < 100000) then some (Txt.join a ys) else none
theorem pr_strs {G : Hp} : ∀ {vs : List V} {ys : List Str}, Paired (rS.r G) vs ys → vs = ys.map V.str
  | _, _, .nil => rfl
  | _, _, .cons h t => by rw [pr_strs t, show _ = V.str _ from h]; rfl
theorem e_sjoin {m1 : Option Str} {m2 : Option (List Str)} (ho : E to σ G W rS m1) (he : E te σ G W (rL rS) m2) : E (tM1 (rJoinS K) to te) σ G W rS (m1 >>= fun a => m2 >>= fun ys => joinS a ys) := fun z hz H e e' Q q => by
  obtain ⟨a, ha, hz⟩ := bindS hz
  obtain ⟨ys, hy, hz⟩ := bindS hz
  obtain ⟨hl, hz⟩ := bifO1 hz
  cases hz
  refine ho a ha H e e' _ fun v H1 G1 u r => ?_
  cases r
  refine ⟨⟨a, rfl⟩, (he.mono u.gg (e'.trans u.hh)) ys hy H1 u.gh (Ex.refl _) _ fun w H2 G2 u2 r2 => ?_⟩
  obtain ⟨p, vs, rfl, h2, h3⟩ := r2
  rw [pr_strs h3] at h2
  exact ⟨a, p, ys, rfl, rfl, .inl (.inl (.inl (u2.gh p _ h2))), by omega, q _ H2 G2 (u.trans u2) rfl⟩
/-! p[0], p[1] with effects; a cell's element -/
variable {G0 H0 : Hp} {ls : List Addr} {cs : Cs} {l : Addr} {β : Type} {S : Rep β}
theorem rr_fst : RR (rIxT K) (rP R S) rI R (fun p i => bif i == 0 then some p.1 else none) := fun v w p i z H G hv hw hz e Q q => by
  obtain ⟨a, x, y, rfl, h2, h3, h4⟩ := hv
  cases hw
  cases hb : (i == (0 : Int)) with
  | false => simp only [hb] at hz; cases hz
  | true =>
    simp only [hb] at hz
    cases hz
    rw [beq_iff_eq] at hb
    subst hb
    exact ⟨a, [x, y], 0, x, rfl, rfl, Or.inl (Or.inl (e a _ h2)), rfl, q x H G (Up.refl e) h3⟩
theorem rr_snd : RR (rIxT K) (rP R S) rI S (fun p i => bif i == 1 then some p.2 else none) := fun v w p i z H G hv hw hz e Q q => by
  obtain ⟨a, x, y, rfl, h2, h3, h4⟩ := hv
  cases hw
  cases hb : (i == (1 : Int)) with
  | false => simp only [hb] at hz; cases hz
  | true =>
    simp only [hb] at hz
    cases hz
    rw [beq_iff_eq] at hb
    subst hb
    exact ⟨a, [x, y], 1, y, rfl, rfl, Or.inl (Or.inl (e a _ h2)), rfl, q y H G (Up.refl e) h4⟩
theorem c_ixC {j : Nat} {i : Int} {x : α} {xs : List α} {Q : VK} (w : Wo G0 H0 ls G H cs) (hc : cs[j]? = some (l, cL R xs)) (hm : atI xs i = some x) (k : ∀ v, R.r G v x → Q v H) : rIxL K (.ref l) (.int i) H Q := by
  obtain ⟨_, o3, h1, vs, rfl, h3⟩ := w.w.getAt hc
  have hz' : (ixN xs.length i).bind (fun j => xs[j]?) = some x := hm
  cases hj : ixN xs.length i with
  | none => rw [hj] at hz'; cases hz'
  | some n =>
    rw [hj] at hz'
    obtain ⟨y, h4, h5⟩ := pr_get h3 (show xs[n]? = some x from hz')
    refine ⟨l, vs, i, y, rfl, rfl, Or.inl (Or.inl h1), ?_, k y h5⟩
    show (ixN vs.length i).bind (fun j => vs[j]?) = some y
    rw [h3.length, hj]
    exact h4
/-! C(.., cell, ..) of a class with slots, the cell only read -/
variable {κ ι : Type} {B : Rep κ} {C : Addr} {A : AR ι} {fl : α → Ps} {ad : ι → Addr} {ys : List κ} {ta : TA}
def PIBs (C : Addr) (A : AR ι) (ad : ι → Addr) (B : Rep κ) (fl : α → Ps) (f : List κ → ι → Option α) : Sp := fun vs H Q _ => ∃ G x dx ws i ys o, vs = .ref x :: ws ∧ Wd G H [(x, cN C dx), (dx, cOw x)] ∧ A.r G ws i ∧ Lent G H (ad i) B ys ∧ f ys i = some o ∧
  ∀ H2 G2, Fr G H G2 H2 [x, dx] → Wd G2 H2 [(x, cSl x C dx (fl o)), (dx, cXd)] → Q .non H2
theorem e_makeBS {f : List κ → ι → Option α} {mi : Option ι} {X : XK} (ha : EA ta σ G W A mi) (L : Lent G W l B ys) (hl : ∀ i, mi = some i → ad i = l) : E (tMake C (PIBs C A ad B fl f) [] X ta) σ G W (rSl C fl) (mi >>= fun i => f ys i) := fun z hz H e e' Q q => by
  obtain ⟨i, hi, hz⟩ := bindS hz
  refine ha i hi H e e' _ fun vs H1 G1 u1 r1 => ?_
  have := hl i hi
  subst this
  intro x dx nx ndx ne
  rw [List.append_nil]
  have L1 := L.up e' u1
  have L2 : Lent G1 (upd (upd H1 dx (.own x)) x (.ins C dx [])) (ad i) B ys := by
    obtain ⟨vs', h2, h3⟩ := L1.at_
    exact ⟨L1.n, vs', by rw [upd_ne (ne_of_none h2 nx), upd_ne (ne_of_none h2 ndx)]; exact h2, h3⟩
  refine ⟨G1, x, dx, vs, i, ys, z, rfl, new_slt u1.gh nx ndx ne, r1, L2, hz, fun H2 G2 fr w2 => ⟨rfl, ?_⟩⟩
  obtain ⟨G3, k1, k2, k3, vs', k4, k5, k6⟩ := sl_freeze w2
  have hh : Ex H1 H2 := fun a o h => by
    have na : a ≠ x := ne_of_none h nx
    have nd : a ≠ dx := ne_of_none h ndx
    exact fr.fr a o (by rw [upd_ne na, upd_ne nd]; exact h) fun z => by simp [na, nd] at z
  have up : Up G1 H1 G3 H2 := ⟨fr.gg.trans k1, k2, hh, fun a h1 h2 => by
    have na : a ≠ x := fun z => by subst z; exact h1 nx
    have nd : a ≠ dx := fun z => by subst z; exact h1 ndx
    exact k3 a na nd (fr.nw a (by rw [upd_ne na, upd_ne nd]; exact h1) h2)⟩
  exact q _ H2 G3 (u1.trans up) ⟨x, dx, vs', rfl, k4, k5, k6⟩
theorem Lent.neS {x dx : Addr} (L : Lent G H l B ys) (w : Wd G H [(x, cN C dx), (dx, cOw x)]) : l ∉ [x, dx] := fun z => by
  obtain ⟨vs, h2, _⟩ := L.at_
  rcases List.mem_cons.mp z with rfl | z
  · obtain ⟨_, o, k2, k3⟩ := w.head
    rw [k2] at h2
    cases h2
    cases k3
  · rw [List.mem_singleton] at z
    subst z
    obtain ⟨_, o, k2, k3⟩ := w.tail.head
    rw [k2] at h2
    cases h2
    cases k3
/-! comprehensions over a lent list -/
def GoesL (J : It) (H1 G1 : Hp) (R : Rep α) (xs : List α) : Prop :=
  ∀ i H, Ex H1 H → (i = xs.length → J.stop i H) ∧ ∀ x, xs[i]? = some x → J.go i H ∧ ∀ v H', J.yld i H v H' → H' = H ∧ R.r G1 v x
def SrcL (wi : TI) (σ : L2.St) (G W : Hp) (R : Rep α) (m : Option (List α)) : Prop :=
  ∀ xs, m = some xs → ∀ H, Ex G H → Ex W H → ∀ k : It → Hp → Prop, (∀ J H1 G1, Up G H G1 H1 → GoesL J H1 G1 R xs → k J H1) → wi σ H k
theorem src_lent {xs : List α} {n : Nat} (L : Lent G W l R xs) (hi : σ[n]? = some (some (.ref l))) : SrcL (iList K (tVar n)) σ G W R (some xs) := fun xs' hx H e e' k q => by
  cases hx
  obtain ⟨us, h2, h3⟩ := L.at_
  refine ⟨.ref l, hi, l, rfl, ⟨us, Or.inl (Or.inl (e' _ _ h2))⟩, q _ H G (Up.refl e) fun i H' e1 => ⟨fun hi => ?_, fun x hx => ?_⟩⟩
  · subst hi; exact ⟨us, Or.inl (Or.inl (e1 _ _ (e' _ _ h2))), by rw [h3.length]; exact Nat.le_refl _⟩
  · obtain ⟨v, hv, r⟩ := pr_get h3 hx
    refine ⟨⟨us, v, Or.inl (Or.inl (e1 _ _ (e' _ _ h2))), hv⟩, fun w H2 y => ?_⟩
    obtain ⟨rfl, y⟩ := y
    have := y us (Or.inl (Or.inl (e1 _ _ (e' _ _ h2))))
    rw [hv] at this
    cases this
    exact ⟨rfl, r⟩
section
variable {γ : Type} {T : Rep γ} {wi : TI} {g : TG} {tt : TT}
/-- [e2 for x in xs if f1] -/
theorem el_lc1L {vs : List Nat} {m : Option (List α)} {f1 : α → Option Bool} {e2 : α → Option γ} {P : Hp → α → L2.St → L2.St → Prop}
    (h : SrcL wi σ G W R m) (hg : Tgt g R P) (hw : ∀ x G' σ2, P G' x (wipe σ vs) σ2 → wipe σ2 vs = wipe σ vs)
    (ht : ∀ x σ2 G' W', Ex G G' → Ex W W' → Ex G' W' → P G' x (wipe σ vs) σ2 → ET tt σ2 W' (f1 x))
    (he : ∀ x σ2 G' W', Ex G G' → Ex W W' → Ex G' W' → P G' x (wipe σ vs) σ2 → E te σ2 G' W' T (e2 x)) :
    EL (tLc wi g tt te vs) σ G W T (m >>= fun xs => lcS f1 e2 xs) := fun zs hz H e e' Q q => by
  obtain ⟨xs, hx, hz⟩ := bindS hz
  obtain ⟨hs, hz⟩ := lcS_ok hz
  refine h xs hx H e e' _ fun J H1 G1 u gs D hD => ?_
  have e1 : Ex W H1 := e'.trans u.hh
  refine ⟨fun i n H' => n = xs.length - i ∧ i ≤ xs.length ∧ ∃ G' acc ys rest, Acc G1 H1 T D G' H' acc ys ∧ lcM f1 e2 (xs.drop i) = some rest ∧ ys ++ rest = zs ∧ ys.length ≤ i, ⟨_, rfl, Nat.zero_le _, G1, [], [], zs, Acc.start u.gh hD, hz, rfl, Nat.le_refl _⟩, ?_⟩
  rintro i n H' ⟨rfl, hi', G', acc, ys, rest, A, hr, hzs, hyl⟩
  have gx := gs i H' A.u.hh
  by_cases hlt : i < xs.length
  · obtain ⟨x, hx⟩ : ∃ x, xs[i]? = some x := ⟨_, List.getElem?_eq_getElem hlt⟩
    obtain ⟨go, yl⟩ := gx.2 x hx
    rw [drop_at hx] at hr
    obtain ⟨b, hb, hr⟩ := bindS hr
    refine .inr ⟨go, fun H' => ∃ G' acc ys rest, Acc G1 H1 T D G' H' acc ys ∧ lcM f1 e2 (xs.drop (i + 1)) = some rest ∧ ys ++ rest = zs ∧ ys.length ≤ i + 1, fun H2 ⟨G2, a2, y2, r2, A2, k1, k2, k3⟩ => ⟨xs.length - (i + 1), by omega, rfl, hlt, G2, a2, y2, r2, A2, k1, k2, k3⟩, fun v H2 y => ?_⟩
    obtain ⟨rfl, r⟩ := yl v H2 y
    refine hg v x _ G' H2 _ A.u.gh (R.mono A.u.gg r) fun σ2 p => ⟨hw x G' σ2 p, ?_⟩
    refine ht x σ2 G' H2 (u.gg.trans A.u.gg) (e1.trans A.u.hh) A.u.gh p b hb H2 (Ex.refl _) _ fun H3 e3 => ?_
    have A := A.sc e3
    cases b with
    | false => exact ⟨G', acc, ys, rest, A, hr, hzs, by omega⟩
    | true =>
      obtain ⟨z, hz', hr⟩ := bindS hr
      obtain ⟨t, ht', hr⟩ := bindS hr
      cases hr
      show te σ2 H3 _
      refine he x σ2 G' H3 (u.gg.trans A.u.gg) (e1.trans A.u.hh) A.u.gh p z hz' H3 A.u.gh (Ex.refl _) _ fun w H8 G8 u8 r8 => ?_
      have A8 := A.up u8
      refine ⟨acc, A8.hd, ?_, G8, _, _, t, A8.add r8, ht', by rw [← hzs]; simp, by simp; omega⟩
      rw [A8.pr.length]
      refine sz_l (n := ys.length) (decide_eq_true ?_)
      have h9 := of_decide_eq_true hs
      omega
  · have ei : i = xs.length := by omega
    subst ei
    rw [List.drop_length] at hr
    cases hr
    rw [List.append_nil] at hzs
    subst hzs
    obtain ⟨G9, k1, k2, k3⟩ := A.fin
    exact .inl ⟨gx.1 rfl, q D H' G9 (fresh_back u.hh k1) (u.trans k2) k3⟩
end
/-! what is never reached -/
def tsNo : TS := fun _ _ _ => False
theorem pss_no {X : Cx} {ss : List Stmt} : PSs X ss tsNo := ⟨fun _ _ _ _ _ _ h => h.elim⟩
end
end Sim

/-! for .. in zip(tuple, tuple) -/
namespace Sim
open PySem L2 Evl
section
variable {K : PySem.W.Frag} {σ : L2.St} {G0 H0 G H W : Hp} {ls : List Addr} {cs : Cs} {ta : TA} {α β : Type} {R : Rep α} {S : Rep β} {D : Ends} {tu tz : TS} {g : TG}
theorem for_zipU {a b : Addr} {xs ys : List V} {g : TG} {tb : TS} {D : Ends} {σ : L2.St} {H : Hp} (Pv : Nat → L2.St → Hp → Prop) (h0 : Pv 0 σ H) (hq : ∀ i σ H, Pv i σ H → SqT K H a xs ∧ SqT K H b ys)
    (hs : ∀ (i : Nat) (x y : V) (T : Addr) (σ : L2.St) (H : Hp), xs[i]? = some x → ys[i]? = some y → Pv i σ H → H T = none → g (.ref T) σ (upd H T (.tup [x, y])) fun σ2 H2 => tb { D with nx := Pv (i + 1), ct := Pv (i + 1), bk := D.nx } σ2 H2) (hd : ∀ σ H, Pv (min xs.length ys.length) σ H → D.nx σ H) :
    ∃ W : Nat → Nat → L2.St → Hp → Prop, (∃ m, W 0 m σ H) ∧ ∀ i m σ H, W i m σ H →
      ((RZ.ItzT K a b).stop i H ∧ D.nx σ H) ∨ ((RZ.ItzT K a b).go i H ∧ ∃ N : L2.St → Hp → Prop, (∀ σ' H', N σ' H' → ∃ m', m' < m ∧ W (i + 1) m' σ' H') ∧ ∀ v H', (RZ.ItzT K a b).yld i H v H' → g v σ H' fun σ2 H2 => tb { D with nx := N, ct := N, bk := D.nx } σ2 H2) := by
  refine ⟨fun i m σ H => m = min xs.length ys.length - i ∧ i ≤ min xs.length ys.length ∧ Pv i σ H, ⟨_, rfl, Nat.zero_le _, h0⟩, ?_⟩
  rintro i m σ H ⟨rfl, hi, p⟩
  obtain ⟨qx, qy⟩ := hq i σ H p
  by_cases hlt : i < min xs.length ys.length
  · have h1 : i < xs.length := by omega
    have h2 : i < ys.length := by omega
    have hx : xs[i]? = some xs[i] := List.getElem?_eq_getElem h1
    have hy : ys[i]? = some ys[i] := List.getElem?_eq_getElem h2
    refine .inr ⟨⟨xs, ys, _, _, qx, qy, hx, hy⟩, Pv (i + 1), fun σ' H' p' => ⟨min xs.length ys.length - (i + 1), by omega, rfl, hlt, p'⟩, fun v H' y => ?_⟩
    obtain ⟨T, x', y', rfl, hT, rfl, f1, f2⟩ := y
    exact hs i x' y' T σ H (f1 xs qx) (f2 ys qy) p hT
  · have e : i = min xs.length ys.length := by omega
    subst e
    exact .inl ⟨⟨xs, ys, qx, qy, by omega⟩, hd σ H p⟩
theorem x_forZ {xs : List α} {ys : List β} {m : Option (List α × List β × Unit)} (w : Wo G0 H0 ls G H cs) (h : EA ta σ G H (aC (rT R) (aC (rT S) aN)) m) (hm : m = some (xs, ys, ())) (P : Nat → Hp → Hp → L2.St → Prop) (hP : ∀ i G' H' σ', P i G' H' σ' → Ex G' H')
    (hW : ∀ i G' H' σ' T o, P i G' H' σ' → H' T = none → P i (upd G' T o) (upd H' T o) σ')
    (h0 : ∀ G' H', Wo G0 H0 ls G' H' cs → Ex G G' → P 0 G' H' σ)
    (hs : ∀ G1, Ex G G1 → ∀ i x v σ' G' H', (xs.zip ys)[i]? = some x → Ex G1 G' → P i G' H' σ' → (rP R S).r G' v x → g v σ' H' fun σ2 H2 => tu { D with nx := fun σ' H' => ∃ G', Ex G1 G' ∧ P (i + 1) G' H' σ', ct := fun σ' H' => ∃ G', Ex G1 G' ∧ P (i + 1) G' H' σ', bk := tz D } σ2 H2)
    (hd : ∀ σ' G' H', Ex G G' → P (xs.zip ys).length G' H' σ' → tz D σ' H') : tSeq (tFor (RZ.iZipA K ta) g tu) tz D σ H :=
  h _ hm H w.ex (Ex.refl _) _ fun vs H1 G1 u r => by
    obtain ⟨v, ws, rfl, r1, v2, ws2, rfl, r2, rfl⟩ := r
    obtain ⟨a, us, rfl, a2, a3⟩ := r1
    obtain ⟨b, us2, rfl, b2, b3⟩ := r2
    refine ⟨a, b, us, us2, rfl, .inr ⟨.inl (.inl (u.gh a _ a2)), .inl (.inl (u.gh b _ b2)), for_zipU (K := K) (xs := us) (ys := us2) (D := { D with nx := tz D }) (fun i σ' H' => ∃ G', Ex G1 G' ∧ P i G' H' σ') ⟨G1, Ex.refl _, h0 G1 H1 (w.up u) u.gg⟩ ?_ ?_ ?_⟩⟩
    · rintro i σ' H' ⟨G', e, p⟩
      exact ⟨.inl (.inl (hP _ _ _ _ p a _ (e a _ a2))), .inl (.inl (hP _ _ _ _ p b _ (e b _ b2)))⟩
    · rintro i y z T σ' H' hy hz ⟨G', e, p⟩ hT
      obtain ⟨x, hx, rx⟩ := pr_get' a3 hy
      obtain ⟨x2, hx2, rx2⟩ := pr_get' b3 hz
      have e1 : Ex G' (upd G' T (.tup [y, z])) := Ex.new (fresh_back (hP _ _ _ _ p) hT)
      refine hs G1 u.gg i (x, x2) (.ref T) σ' (upd G' T (.tup [y, z])) (upd H' T (.tup [y, z])) ?_ (e.trans e1) (hW _ _ _ _ _ _ p hT) ⟨T, y, z, rfl, upd_same, R.mono (e.trans e1) rx, S.mono (e.trans e1) rx2⟩
      rw [List.getElem?_zip_eq_some]
      exact ⟨hx, hx2⟩
    · rintro σ' H' ⟨G', e, p⟩
      rw [a3.length, b3.length] at p
      exact hd σ' G' H' (u.gg.trans e) (by rw [List.length_zip]; exact p)
/-! displays of lists, sums of lists, opened -/
def eK (v : V) : TE := fun _ H Q => Q v H
theorem e_K {v : V} {x : α} (h : R.r G v x) : E (eK v) σ G W R (some x) := fun z hz H e e' Q q => by
  cases hz
  exact q v H G (Up.refl e) h
theorem o_lst {Q : VK} (h : ta σ H fun vs H1 => tLst (tK vs) σ H1 Q) : tLst ta σ H Q := h
theorem c_lstN {vs : List V} {xs : List α} {Q : VK} (w : Wo G0 H0 ls G H cs) (hp : Paired (R.r G) vs xs) (hn : xs.length < 100000) (k : ∀ v H2 G2, Wo G0 H0 ls G2 H2 cs → Ex G G2 → (rL R).r G2 v xs → Q v H2) : tLst (tK vs) σ H Q := by
  refine ⟨sz_of (by rw [hp.length]; exact Nat.le_of_lt hn), fun p hp' => k _ _ _ (w.up (Up.lay w.ex hp')) (Ex.new (fresh_back w.ex hp')) ⟨p, vs, rfl, upd_same, Paired.mapP hp fun _ _ => R.mono (Ex.new (fresh_back w.ex hp'))⟩⟩
theorem c_opL {γ : Type} {T : Rep γ} {r : R2} {f : α → β → Option (List γ)} {v u : V} {x : α} {y : β} {z : List γ} {Q : VK} (hr : RRL r R S T f) (w : Wo G0 H0 ls G H cs) (hv : R.r G v x) (hw : S.r G u y) (hz : f x y = some z)
    (k : ∀ v H2 G2, Wo G0 H0 ls G2 H2 cs → Ex G G2 → (rL T).r G2 v z → Q v H2) : r v u H Q := by
  have := c_e (σ := []) (te := tOp r (eK v) (eK u)) (Q := Q) w (EL.e (el_op hr (e_K hv) (e_K hw))) (show (some x >>= fun x => some y >>= fun y => f x y) = some z from hz) k
  exact this
end
end Sim

/-! an object called: x(..), x of an own class with __call__ -/
namespace PySem.W
open PySem PySem.Spec PySem.Calls PyProof.Rows
theorem kcoX_callWith {M : Model} {A : Around} {E : Value → Shared → Prop} {s : Shared} {env : Env} {pos : Pos} {x C : Addr} {ox : Obj} {first : List Value} {Q : Value → Shared → Prop} {e : Expr} {rest : List Expr} (hd : ox.data = .plain)
    (h : wpAny M A (spliced (backTo pos (starEach (e :: rest) env))) (fun vs s₁ => (∃ od, InstAt s₁.heap x ox C od) ∧ wpAny M A (call (.ref x) (first ++ vs)) Q E s₁) E s)
    (he : starEach (e :: rest) env = (false, eval e env) :: starEach rest env := by rfl) (hpl : (backTo pos (starEach rest env)).any (·.1) = false := by rfl) :
    wpAny M A (callWith pos (.ref x) first (backTo pos (starEach (e :: rest) env)) []) Q E s := by
  rw [he] at h ⊢
  have hplain : ((backTo pos ((false, eval e env) :: starEach rest env)).any (·.1) || ([] : List (Option Str × Sem Value)).any (·.1.isNone)) = false := by
    show ((false || (backTo pos (starEach rest env)).any (·.1)) || false) = false
    rw [hpl]; rfl
  have h : wpAny M A (evalArgs (.ref x) true (backTo pos ((false, eval e env) :: starEach rest env)) []) (fun a s₁ => (∃ od, InstAt s₁.heap x ox C od) ∧ wpAny M A (call (.ref x) (first ++ a.pos) a.kw) Q E s₁) E s := evalArgs_plain h
  unfold callWith
  refine wpAny_bind (wpAny_holding (wpAny_mono h (fun a s₁ h₁ => wpAny_bind (wpAny_standAt ?_)) fun _ _ y => y))
  obtain ⟨⟨od, I⟩, h₁⟩ := h₁
  have L := kco_keeper (M := M) I hd
  simp only [hplain]
  refine wpAny_bind (L.here ?_)
  have tail : ∀ {t : Sem Value}, wpAny M A t Q E s₁ → wpAny M A (t >>= fun r => holding [r] point >>= fun _ => pure r) Q E s₁ :=
    fun ht => wpAny_bind (wpAny_mono ht (fun r s₂ hr => wpAny_bind (wpAny_holding (wpAny_point (wpAny_pure hr)))) fun _ _ y => y)
  exact tail (wpAny_operateT h₁)
end PySem.W
namespace L2
open PySem PySem.Spec PyProof.Rows
section
variable {X : Cx} {CX : CXT} {k i : Nat} {f C : Addr} {fd : FuncData} {ps : List Str} {sp : Sp} {E : St → XK} {x : Str} {p pos : Pos} {e : Expr} {es : List Expr} {t : TA}
/-- the promise of x(..) for the instances of the class at C -/
def HeldO (P : Program) (w : World) (K : PySem.W.Frag) (mg : Str → Option Value) (base : Heap) (CX : CXT) (k : Nat) (C : Addr) (sp : Sp) : Prop :=
  ∃ f fd ps, Meth K C "__call__" f ∧ PySem.W.fnIn K f = true ∧ FnOk P w K mg base CX k f fd ps sp ∧ Binds K fd ps []
/-- x(e, ..), x in the i-th slot an instance of a class whose promise S tells -/
def tCallO (i : Nat) (S : Addr → Option Sp) (E : St → XK) (t : TA) : TE := fun σ H Q => ∃ a C dx fs sp, σ[i]? = some (some (.ref a)) ∧ H a = some (.ins C dx fs) ∧ S C = some sp ∧ t σ H fun vs H1 => (∃ gs, H1 a = some (.ins C dx gs)) ∧ sp (.ref a :: vs) H1 Q (E σ)
theorem pe_callO {S : Addr → Option Sp} (hN : X.N[i]? = some x) (hv : Vis X.env.scope x) (hS : ∀ C sp, S C = some sp → HeldO X.prog X.w X.K X.mg X.base CX k C sp) (hr : Room k X.A) (hx : ∀ σ, PassesAt CX X σ (E σ)) (ha : PA X (e :: es) t)
    (hdb : (x == ("__debug__" : Str)) = false := by decide) (hcd : (x == ("__classdict__" : Str)) = false := by decide)
    (he : starEach (e :: es) X.env = (false, eval e X.env) :: starEach es X.env := by rfl) (hpl : (backTo pos (starEach es X.env)).any (·.1) = false := by rfl) : PE X (.Call (.Name x p) (e :: es) [] pos) (tCallO i S E t) := by
  refine ⟨fun pins s σ H Q I h => ?_⟩
  obtain ⟨a, C, dx, fs, sp, hs, ea, hSC, ht⟩ := h
  obtain ⟨f, fd, ps, M, hfn, F, hb⟩ := hS C sp hSC
  refine wpAny_Call_Name_kw (thn ((pe_var (pos := p) hN hv hdb hcd).run pins s σ H (fun v H1 => v = .ref a ∧ H1 = H) I ⟨.ref a, hs, rfl, rfl⟩) fun u s1 ⟨v, H1, I1, r1, q1⟩ => ?_)
  obtain ⟨rfl, rfl⟩ := q1
  cases r1
  refine PySem.W.kcoX_callWith (ox := PySem.W.instObj C dx) (C := C) rfl (thn (ha.run pos pins s1 σ _ _ I1 ht) fun us s2 ⟨vs, H2, I2, r, ⟨gs, ga⟩, q⟩ => ?_) he hpl
  obtain ⟨mA, J, _⟩ := ins_get I2.hok ga
  obtain ⟨od, J, _⟩ := J.look
  refine ⟨⟨od, J⟩, ?_⟩
  have r' : Vals (.ref a :: vs) (.ref a :: us) := .cons rfl r
  have hl : (Value.ref a :: us).length = ps.length := by rw [← r'.length]; exact F.len _ _ _ _ q
  have b := hb s2 (.ref a :: us) I2.kIn (by rw [List.append_nil]; exact hl)
  rw [List.append_nil] at b
  refine wpAny_call (PySem.W.kco_code (K := X.K) (C := C) (f := f) I2.kIn J rfl M.at_ M.fn hfn (codeAny_mono (F.run X.A X.stack s2 H2 ⟨.ref a :: us, []⟩ (.ref a :: us) (.ref a :: vs) Q (E σ) hr I2.env0 b r' q) fun r s' hq => ?_))
  cases r with
  | error e => exact hx σ pins H2 s2 e s' I2 hq
  | ok fl =>
    cases fl with
    | ret u => exact I2.after hq
    | next => exact False.elim hq
    | brk => exact False.elim hq
    | cont => exact False.elim hq
end
end L2

set_option maxHeartbeats 4000000
/-! own classes: an __init__ whose first statement is super().__init__(..), over an own class's __init__ -/
namespace Sim
open PySem PySem.Spec PyProof.Rows L2 PySem.W PySem.Calls NdefX
/-- what the written part says of such an __init__, written in the class at D, of an instance of the class at C -/
structure SupP (P : Program) (K : Frag) (mg : Str → Option Value) (D C f g : Addr) (fd : FuncData) (F : NF) (ps : List Str) (dvs : List V) : Prop where
  lk : ∃ oc od osl dV kV doc pm an ct, fd = PySem.W.fnX F.name F.qual F.params F.body F.scope F.cl dV kV doc pm an (.ref F.c) ct ∧ K.lookup f = some ⟨oc, od, .func fd, osl⟩ ∧ DflV K dV dvs
  cd : PySem.W.codeIn K (.ref F.c) F.qual = true
  cl : ∃ cc oc od osl, F.cl = [(("__class__" : Str), cc)] ∧ K.lookup cc = some ⟨oc, od, .cell (some (.ref D)), osl⟩
  par : ∃ ar ps', (F.params.posonlyargs ++ F.params.args).head? = some ar ∧ ps = ar.arg :: ps' ∧ F.scope.names.lookup ar.arg = some .local
  code : ∃ ccl cdd vs ccs file tf, K.lookup F.c = some ⟨ccl, cdd, .fields vs, ccs⟩ ∧ vs[2]? = some (.str file tf) ∧ ((P.main.file : Str) == file) = true
  cls : ∃ cdD, clsIn K D = some cdD
  clsC : ∃ cdC, clsIn K C = some cdC
  sub : mroIn K C (.ref D) = some true
  ks : F.scope.names.lookup ("super" : Str) = some .globalImplicit
  kc : F.scope.names.lookup ("__class__" : Str) = some .free
  mg : mg "super" = none
  top : (P.main.scope.names.lookup ("super" : Str)).isSome = false
  opq : nsIn K cStatics "thirdparty.any" = some none
  sup : ks_superIn K C D "__init__" = some (some (.ref g))
  gt : typeIn K (.ref g) = some (.type "function")
  gf : fnIn K g = true
section
variable {CX : CXT} {P : Program} {w : World} {K : PySem.W.Frag} {mg : Str → Option Value} {base : Heap} {N ps psg : List Str} {F : NF} {C D f g : Addr} {fd fdg : FuncData} {k : Nat} {sp spg : Sp} {e : Expr} {es : List Expr} {rest : List Stmt} {p0 p1 p2 p3 p4 : Pos} {pl : Sem Bool}
theorem fn_sup (S : NScope N ps ["__class__"] F.scope) {dvs : List V} (Y : SupP P K mg D C f g fd F ps dvs) (G : FnOk P w K mg base CX0 k g fdg psg spg) (bg : Binds K fdg psg [])
    (hbd : F.body = .Expr (.Call (.Attribute (.Call (.Name "super" p0) [] [] p1) "__init__" p2) (e :: es) [] p3) p4 :: rest)
    (hev : ∀ L : Addr, eval (.Call (.Attribute (.Call (.Name "super" p0) [] [] p1) "__init__" p2) (e :: es) [] p3) (envF F f L) = (do
      let ov ← attributeBase (.Call (.Name "super" p0) [] [] p1) "__init__" (envF F f L) (eval (.Call (.Name "super" p0) [] [] p1) (envF F f L))
      standAt p2.atName
      let (g, first) ← holding [ov] (getMethod ov "__init__" pl)
      callWith p3 g first (backTo p3 (starEach (e :: es) (envF F f L))) []))
    (hint : ∀ L : Addr, interactive (envF F f L) = false)
    (hst : ∀ L : Addr, starEach (e :: es) (envF F f L) = (false, eval e (envF F f L)) :: starEach es (envF F f L))
    (hpl : ∀ L : Addr, (backTo p3 (starEach es (envF F f L))).any (·.1) = false)
    (len : ∀ vs H Q E, sp vs H Q E → vs.length = ps.length)
    (hbody : ∀ (A : Around) (outer : List Env) (s : Shared) (H : Hp) (vs : List V) (Q : VK) (E : XK), Room k (A.deeper (envF F f s.heap.objs.size)) → sp vs H Q E →
      ∃ a vs' dx fs, vs = .ref a :: vs' ∧ H a = some (.ins C dx fs) ∧ ∃ t tt, PA (ncx CX P w K mg base N F f A outer s H E) (e :: es) t ∧ PSs (ncx CX P w K mg base N F f A outer s H E) rest tt ∧
        t (startF N vs [none]) H fun ws H1 => spg (.ref a :: ws) H1 (fun _ H2 => tt { nx := fun _ H' => Q .non H', rt := Q } (startF N vs [none]) H2) E0) :
    FnOk P w K mg base CX (k + 1) f fd ps sp := by
  obtain ⟨oc, od, osl, dV, kV, doc, pm, an, ct, rfl, lk, _⟩ := Y.lk
  refine ⟨len, fun A outer s H args us vs Q E hr e0 hb r hsp => ?_⟩
  have hl := len _ _ _ _ hsp
  have KX : K.In s.heap := e0.mod.kin.keeps fun b o e => (e0.bs b o e).1
  have lim : s.heap.NoLimit := e0.mod.nolimit.keeps fun b o e => (e0.bs b o e).1
  refine codeAny_call_function hr.depth (KX _ _ lk) rfl S.co S.gen rfl (PySem.W.codeRec_of KX Y.cd) (hb _ _ _ _ ?_)
  refine wpAny_newFunctionEnv S.nocell (fun ⟨n, _⟩ hy => S.par n (List.of_mem_zip hy).1) (fun h₁ hns hsb => ⟨lim.fresh _ hsb, ?_⟩) S.kind
  show codeAny _ _ (.func F.body (envF F f s.heap.objs.size)) _ _
  have kp : ∀ b o, s.heap.get? b = some o → h₁.get? b = some o := fun b o e => hsb.extBut b o (Nat.ne_of_lt (Heap.lt_size e)) (Heap.get?_push_of_some _ e)
  obtain ⟨a, vs', dxa, fsa, rfl, ea, ta, tt, hta, ht, hq⟩ := hbody A outer s H vs Q E (hr.deeper _) hsp
  obtain ⟨cc, kc0, kc1, kc2, hcl, hcc⟩ := Y.cl
  have ccb : base.get? cc = some ⟨kc0, kc1, .cell (some (.ref D)), kc2⟩ := e0.mod.kin _ _ hcc
  have CA : CellsAt F.cl ["__class__"] [none] s.heap H := by
    rw [hcl]
    have look : ∀ y c, ([(("__class__" : Str), cc)] : List (Str × Addr)).lookup y = some c → y = "__class__" ∧ c = cc := fun y c e => by
      rw [List.lookup_cons] at e
      cases h : (y == ("__class__" : Str)) with
      | true => rw [h] at e; cases e; exact ⟨eq_of_beq h, rfl⟩
      | false => rw [h] at e; cases e
    refine ⟨rfl, fun y c e => ?_, fun x y c e1 e2 => ?_, fun i y e => ?_⟩
    · obtain ⟨_, rfl⟩ := look y c e
      exact ⟨(e0.bs _ _ ccb).2, _, ⟨_, (e0.bs _ _ ccb).1, rfl⟩⟩
    · rw [(look x c e1).1, (look y c e2).1]
    · cases i with
      | zero =>
        cases e
        exact ⟨cc, by rfl, fun v e => by cases e⟩
      | succ i => cases e
  have I : Inv (ncx CX P w K mg base N F f A outer s H E) [] (startF N (.ref a :: vs') [none]) H { s with heap := h₁, toks := s.toks + (ps.zip us).length } := inv_startN S hr.hd e0 hl r CA hns kp
  refine ks_codeAny_funcAt ?_
  have fin : ∀ {σ' : L2.St} {H' : Hp} {v : V} {u : Value} {s' : Shared}, Inv (ncx CX P w K mg base N F f A outer s H E) [] σ' H' s' → RelV v u → Q v H' → CE outer P w H s Q u s' :=
    fun {σ' H' v u s'} J rv q => ⟨v, H', J.os, J.bare, J.base, J.hok, rv, q⟩
  have tail : ∀ (s1 : Shared) (H2 : Hp), Inv (ncx CX P w K mg base N F f A outer s H E) [] (startF N (.ref a :: vs') [none]) H2 s1 → tt { nx := fun _ H' => Q .non H', rt := Q } (startF N (.ref a :: vs') [none]) H2 →
      _root_.PySem.wpAt (model P w) (A.deeper (envF F f s.heap.objs.size)) (.func F.body (envF F f s.heap.objs.size)) (execs rest (envF F f s.heap.objs.size)) (fun f s' => CR CX outer P w H s Q E (.ok (.ret (match f with | .ret v => v | _ => .none))) s')
        (fun e s' => wpAny (model P w) (A.deeper (envF F f s.heap.objs.size)) (leaving (envF F f s.heap.objs.size) e) (fun _ s'' => CR CX outer P w H s Q E (.error e) s'') (fun e' s'' => CR CX outer P w H s Q E (.error e') s'') s') s1 := by
    intro s1 H2 I1 hq2
    refine wpAt_of_wpAny (wpAny_mono (ht.run [] _ (startF N (.ref a :: vs') [none]) H2 _ I1 hq2) (fun fl s' hs => ?_) fun e s' hs => hs)
    cases fl with
    | ret u =>
      obtain ⟨v, σ', H', J, rv, q⟩ := hs
      exact fin J rv q
    | next =>
      obtain ⟨σ', H', J, q⟩ := hs
      exact fin (v := V.non) (u := Value.none) J rfl q
    | brk =>
      obtain ⟨_, _, _, q⟩ := hs
      exact False.elim q
    | cont =>
      obtain ⟨_, _, _, q⟩ := hs
      exact False.elim q
  rw [hbd]
  rw [← hbd]
  refine (congrArg (fun z => _root_.PySem.wpAt (model P w) (A.deeper (envF F f s.heap.objs.size)) (.func F.body (envF F f s.heap.objs.size)) (execs z (envF F f s.heap.objs.size)) _ _ _) hbd).mpr ?_
  refine ks_wpAt_execs_cons (ks_wpAt_Expr_any (ks_wpAt_MethodCall ?_ (hev _)) (hint _))
  obtain ⟨ar, ps', hp, hps, hka⟩ := Y.par
  obtain ⟨ccl, cdd, cvs, ccs, file, tf, hcode, hvs, hfile⟩ := Y.code
  obtain ⟨cdD, hD⟩ := Y.cls
  obtain ⟨oD, hD1, hD2⟩ : ∃ oD, h₁.get? D = some oD ∧ oD.data = .cls cdD := by
    unfold clsIn at hD
    split at hD
    · rename_i c d cd' sl ho
      cases hD
      exact ⟨_, I.kIn _ _ ho, rfl⟩
    · cases hD
  obtain ⟨mA, J, _⟩ := ins_get I.hok ea
  obtain ⟨oda, J, _⟩ := J.look
  have ho := J.at_
  obtain ⟨mb, hb1, hb2⟩ := I.mod.blt
  have hboot : bootBuiltins "super" = some (.type "super") := by kernel_rfl
  refine ks_wpAt_super_base (env := envF F f s.heap.objs.size) (fd := PySem.W.fnX F.name F.qual F.params F.body F.scope F.cl dV kV doc pm an (.ref F.c) ct) Y.ks Y.kc (by decide) rfl (I.kIn _ _ lk) rfl hp rfl (I.kIn _ _ hcode) rfl hvs hfile Y.top ?_
  refine ks_loadName_global S.kind Y.ks (loadGlobal_builtin (env := envF F f s.heap.objs.size) (I.mod.glob.keeps I.bk) Y.mg (hb1.keeps I.bk) ((hb2 _ (by decide)).trans hboot) ⟨rfl, ?_⟩)
  refine wpAny_loadName_free S.kind Y.kc (show List.lookup ("__class__" : Str) F.cl = some cc by rw [hcl]; rfl) ⟨_, I.kIn _ _ hcc, rfl⟩ ?_
  have hself : (ps.zip us).reverse.lookup ar.arg = some (.ref a) := by
    have ndP : ps.Nodup := by
      have q := S.nd.sublist (List.take_sublist (ps.length + [("__class__" : Str)].length) N)
      rw [S.pre] at q
      exact (List.nodup_append.mp q).1
    cases r with
    | cons rx rr =>
      cases rx
      exact zip_look (i := 0) ndP (by rw [hps]; rfl) rfl
  refine wpAny_loadName_local S.kind hka hns hself ?_
  refine ks_wpAny_isType_cls hD1 hD2 ⟨rfl, ?_⟩
  refine ks_wpAny_call_super hD1 hD2 ho J.cls (fun c e => by
    have := J.no
    unfold notCls at this
    rw [e] at this
    exact Bool.noConfusion this) (looks_mroIn I.kIn Y.sub) (fun h2 e2 k2 => ?_)
  have I2 := I.kept (t' := s.toks + (ps.zip us).length) (h' := h2) k2
  obtain ⟨mA2, J2, _⟩ := ins_get I2.hok ea
  obtain ⟨oda2, J2, _⟩ := J2.look
  obtain ⟨cdC, hC⟩ := Y.clsC
  have hsu := Y.sup
  unfold ks_superIn at hsu
  rw [hC] at hsu
  obtain ⟨og, hg1, hg2⟩ : ∃ og, h2.get? g = some og ∧ og.cls = .type "function" := by
    have ht' : (K.lookup g).map (·.cls) = some (.type "function") := Y.gt
    cases z : K.lookup g with
    | none => rw [z] at ht'; cases ht'
    | some og => rw [z] at ht'; exact ⟨og, I2.kIn _ _ z, Option.some.inj ht'⟩
  refine ks_wpAny_getMethod_super e2 (looks_opaque I2.kIn Y.opq) (l₀ := cdC.mro) (fun A Q E s k q => wpAny_bind ((looks_clsIn I2.kIn hC) A _ E s k (wpAny_pure q))) rfl I2.kIn hsu hg1 hg2 (ks_ne I2.kIn J2 hC) (by decide) ?_
  have I3 := ClX.met_new (g := g) (C := a) I2
  refine ClX.callwith_cm I3 (ClX.base_none I2 (Nat.le_refl _)) Y.gf (thn (hta.run p3 _ _ _ H _ I3 hq) fun us2 s3 ⟨ws, H3, I4, rv, q2⟩ => ⟨⟨ClX.pin_at I4, I4.kIn⟩, ?_⟩) (hst _) (hpl _)
  have FR : FnR P w K mg base CX0 k g spg := fnR_of (X := ncx CX P w K mg base N F f A outer s H E) G bg
  refine thn (ClX.run_cm (E := E0) FR (hr.deeper _) pass0 I4 rv q2) fun u s4 hu => ?_
  obtain ⟨v, H4, I5, _, q5⟩ := hu
  exact tail _ _ I5 q5
end
end Sim

/-! askers: objects whose field `asks` holds a list that is changed; that list is a cell of the caller -/
namespace Sim
open PySem L2 Evl
section
variable {K : PySem.W.Frag} {C : Addr} {σ : L2.St} {G0 H0 G H G2 H2 W : Hp} {ls : List Addr} {cs : Cs} {l : Addr} {ta : TA} {te : TE} {X : XK} {α β κ ι : Type} {R : Rep α} {S : Rep β} {T : Rep α} {B : Rep κ} {A : AR ι} {D : Ends} {tz : TS} {ns : List Str}
/-- a call that may raise, and may change the list at ad i -/
def PXA (K : PySem.W.Frag) (A : AR ι) (ad : ι → Addr) (B : Rep κ) (T : Rep α) (f : ι → List κ → Option ((Xn ⊕ α) × List κ)) : Sp := fun vs H Q E => ∃ G i ys r ys', A.r G vs i ∧ Wd G H [(ad i, cL B ys)] ∧ f i ys = some (r, ys') ∧
  (∀ e, r = .inl e → ∀ d H2 G2, Fr G H G2 H2 [ad i] → Wd G2 H2 [(ad i, cL B ys')] → Xat G2 e d → E (.ref (He.ga K e.cls)) (some d) H2) ∧
  (∀ x, r = .inr x → ∀ v H2 G2, Fr G H G2 H2 [ad i] → Wd G2 H2 [(ad i, cL B ys')] → T.r G2 v x → Q v H2)
theorem c_pxa {ad : ι → Addr} {f : ι → List κ → Option ((Xn ⊕ α) × List κ)} {vs : List V} {j : Nat} {i : ι} {ys ys' : List κ} {r : Xn ⊕ α} {Q : VK} {E : XK} (w : Wo G0 H0 ls G H cs) (hc : cs[j]? = some (ad i, cL B ys)) (hv : A.r G vs i) (hz : f i ys = some (r, ys'))
    (kx : ∀ e, r = .inl e → ∀ d H2 G2, Wo G0 H0 ls G2 H2 (cs.set j (ad i, cL B ys')) → Ex G G2 → Xat G2 e d → E (.ref (He.ga K e.cls)) (some d) H2)
    (k : ∀ x, r = .inr x → ∀ v H2 G2, Wo G0 H0 ls G2 H2 (cs.set j (ad i, cL B ys')) → Ex G G2 → T.r G2 v x → Q v H2) : PXA K A ad B T f vs H Q E :=
  ⟨G, i, ys, r, ys', hv, w.sub1 hc, hz, fun e he d H2 G2 fr w2 xa => kx e he d H2 G2 (w.call1 hc fr w2) fr.gg xa, fun x hx v H2 G2 fr w2 rr => k x hx v H2 G2 (w.call1 hc fr w2) fr.gg rr⟩
/-- the making of such an object: the list is new -/
def PIA (C : Addr) (A : AR ι) (B : Rep κ) (ns : List Str) (fl : Addr → α → List Pd) (f : ι → Option α) : Sp := fun vs H Q _ => ∃ G x ws i o, vs = .ref x :: ws ∧ Wd G H [(x, cI C [] [])] ∧ A.r G ws i ∧ f i = some o ∧
  ∀ H2 G2 p, H p = none → Fr G H G2 H2 [x] → Wd G2 H2 [(p, cL B []), (x, cI C ns (fl p o))] → Q .non H2
/-- v = C(..) -/
theorem x_makeA {a : Nat} {fl : Addr → α → List Pd} {f : ι → Option α} {mi : Option ι} {z : α} (w : Wo G0 H0 ls G H cs) (ha : EA ta σ G H A mi) (hm : (mi >>= f) = some z)
    (k : ∀ v p H2 G2, H0 p = none → Wo G0 H0 ls G2 H2 ((p, cL B []) :: cs) → Ex G G2 → (rObj C ns (fl p)).r G2 v z → tz D (σ.set a (some v)) H2) : tSeq (tAsg (tMake C (PIA C A B ns fl f) [] X ta) (gName a)) tz D σ H := by
  obtain ⟨i, hi, hz⟩ := bindS hm
  refine ha i hi H w.ex (Ex.refl _) _ fun vs H1 G1 u1 r1 => ?_
  intro x dx nx ndx ne
  rw [List.append_nil]
  have w1 : Wd G1 (upd (upd H1 dx (.own x)) x (.ins C dx [])) [(x, cI C [] [])] := new_ins u1.gh nx ndx ne
  refine ⟨G1, x, vs, i, z, rfl, w1, r1, hz, fun H2 G2 p np fr w2 => ⟨rfl, ?_⟩⟩
  have px : p ≠ x := fun z => by rw [z, upd_same] at np; cases np
  have np1 : H1 p = none := by
    rw [upd_ne px] at np
    by_cases q : p = dx
    · rw [q]; exact ndx
    · rw [upd_ne q] at np; exact np
  obtain ⟨G3, k1, k2, k3, dx', fs, k4, k5⟩ := ob_freeze w2.tail
  have hh : Ex H1 H2 := fun a o h => by
    have na : a ≠ x := ne_of_none h nx
    have nd : a ≠ dx := ne_of_none h ndx
    exact fr.fr a o (by rw [upd_ne na, upd_ne nd]; exact h) fun z => na (List.mem_singleton.mp z)
  have up : Up G1 H1 G3 H2 := ⟨fr.gg.trans k1, k2, hh, fun a h1 h2 => by
    have na : a ≠ x := fun z => by subst z; exact h1 nx
    have nd : a ≠ dx := fun z => by subst z; exact h1 ndx
    exact k3 a na (fr.nw a (by rw [upd_ne na, upd_ne nd]; exact h1) h2)⟩
  have u := u1.trans up
  obtain ⟨h1, o, h2, h3⟩ := w2.head
  have w3 : Wd G3 H2 [(p, cL B [])] := ⟨k2, fun c hc => by
    rw [List.mem_singleton.mp hc]
    exact ⟨k3 p px h1, o, h2, (cL B []).mono k1 h3⟩, List.nodup_cons.mpr ⟨List.not_mem_nil, List.nodup_nil⟩⟩
  have npH : H p = none := by
    cases q : H p with
    | none => rfl
    | some o => rw [u1.hh p o q] at np1; cases np1
  have n0 : H0 p = none := by
    cases q : H0 p with
    | none => rfl
    | some o => exact absurd npH (w.f.st p (by rw [q]; simp))
  exact k (.ref x) p H2 G3 n0 (w.newC npH u w3) u.gg ⟨x, dx', fs, rfl, k4, k5⟩
/-- self.f = [], a new field that holds a new list -/
theorem x_fldL {i j : Nat} {f : Str} {m : Option (List κ)} {xs : List κ} {ps : List Pd} (w : Wo G0 H0 ls G H cs) (hc : cs[j]? = some (l, cI C ns ps)) (hi : σ[i]? = some (some (.ref l))) (h : EL te σ G H B m) (hm : m = some xs) (hC : Cls K C) (hn : NoAttr K C f) (hz : ns.length < 1000) (hf : ns.contains f = false)
    (k : ∀ p H2 G2, H0 p = none → Wo G0 H0 ls G2 H2 ((p, cL B xs) :: cs.set j (l, cI C (ns ++ [f]) (ps ++ [pd rA p]))) → Ex G G2 → tz D σ H2) : tSeq (sFld K (tVar i) te f) tz D σ H := by
  refine c_l (Q := fun y H1 => tVar i σ H1 fun x H2 => ∃ a C dx fs, x = .ref a ∧ H2 a = some (.ins C dx fs) ∧ Cls K C ∧ NoAttr K C f ∧ fs.length < 1000 ∧ tz D σ (upd H2 a (.ins C dx (putF f y fs)))) w h hm fun p H2 G2 n0 w2 e => ?_
  obtain ⟨_, o3, k2, dx, fs, rfl, k3⟩ := w2.w.getAt (i := j + 1) hc
  refine ⟨.ref l, hi, l, C, dx, fs, rfl, k2, hC, hn, by rw [← List.length_map (f := (·.1)), k3.1]; exact hz, ?_⟩
  rw [putF_new (by rw [k3.1]; exact hf)]
  refine k p _ _ n0 (w2.writeAt (i := j + 1) hc ⟨dx, _, rfl, ?_, ?_⟩) e
  · rw [List.map_append, k3.1]; rfl
  · rw [List.map_append]; exact pr_app k3.2 (.cons rfl .nil)
/-- o.f of such an object: the list's address -/
theorem e_fldA {m : Option α} {f : Str} {fl : α → List Pd} {p : Addr} (n : Nat) (h : E te σ G W (rObj C ns fl) m) (hC : Cls K C) (hn : NoAttr K C f) (hi : ns.findIdx? (fun x => x == f) = some n) (hp : ∀ x, (fl x)[n]? = some (pd rA p)) : E (tFld K te f) σ G W rA (m >>= fun _ => some p) :=
  e_fld n (fun _ => p) h hC hn hi hp
end
end Sim

/-! the hook with an __init__ that calls super().__init__ of an own class -/
namespace Sim
section
open PySem PySem.Spec PyProof.Rows L2 PySem.W PySem.Calls NdefX
/-- an __init__ that calls super().__init__ of an own class: written in cls, of instances of inst, the other one in base -/
structure SpD where
  cls : Str
  inst : Str
  base : Str
  qual : Str
  params : Arguments
  body : List Stmt
  scope : Scope
  dfl : List He.Dv := []
def SpD.x (d : SpD) : XcD := ⟨d.cls, d.qual, d.params, d.body, d.scope⟩
def SpD.val (d : SpD) : FnY := d.x.val
def SpD.fdB (K : Frag) (file : Str) (d : SpD) : Bool := match K.lookup (xcAd K d.cls) with
  | some ⟨_, _, .func fd, _⟩ => (match fd.closure with
    | [(_, cc)] => (match K.lookup cc with
      | some ⟨_, _, .cell (some (.ref D)), _⟩ => D == He.ga K d.cls
      | _ => false)
    | _ => false) && (match fd.code with
    | .ref cda => codeIn K (.ref cda) d.qual && (match K.lookup cda with
      | some ⟨_, _, .fields vs, _⟩ => (match (vs[2]? : Option Value) with
        | some (.str fl _) => fl == file
        | _ => false)
      | _ => false)
    | _ => false) && (decide (fd.name = ("__init__" : Str)) && He.dflB K fd.defaults (d.dfl.map (He.Dv.v K)))
  | _ => false
def SpD.ok (K : Frag) (file : Str) (d : SpD) : Bool := d.fdB K file && ((clsIn K (He.ga K d.inst)).isSome && ((clsIn K (He.ga K d.cls)).isSome && (decide (mroIn K (He.ga K d.inst) (.ref (He.ga K d.cls)) = some true) &&
  (decide (nsIn K cStatics "thirdparty.any" = some none) && (decide (ks_superIn K (He.ga K d.inst) (He.ga K d.cls) "__init__" = some (some (.ref (xcAd K d.base)))) && (decide (typeIn K (.ref (xcAd K d.base)) = some (.type "function")) &&
  (fnIn K (xcAd K d.base) && decide (xcAd K d.inst = xcAd K d.cls))))))))
theorem SpD.known {P : Program} {K : Frag} {mg : Str → Option Value} {d : SpD} (e : fnY K d.cls = d.val) (c : d.ok K P.main.file = true) (hmg : mg "super" = none) (htop : (P.main.scope.names.lookup ("super" : Str)).isSome = false)
    (hks : d.scope.names.lookup ("super" : Str) = some .globalImplicit) (hkc : d.scope.names.lookup ("__class__" : Str) = some .free) {ar : Arg} {ars : List Arg} (hpa : d.params.posonlyargs ++ d.params.args = ar :: ars) (hka : d.scope.names.lookup ar.arg = some .local) :
    ∃ fd cc c, SupP P K mg (He.ga K d.cls) (He.ga K d.inst) (xcAd K d.cls) (xcAd K d.base) fd ⟨"__init__", d.qual, d.params, d.body, d.scope, [("__class__", cc)], c⟩ ((d.params.posonlyargs ++ d.params.args).map (·.arg)) (d.dfl.map (He.Dv.v K)) := by
  unfold SpD.ok at c
  obtain ⟨c0, c⟩ := He.ba c
  obtain ⟨c1, c⟩ := He.ba c
  obtain ⟨c2, c⟩ := He.ba c
  obtain ⟨c3, c⟩ := He.ba c
  obtain ⟨c4, c⟩ := He.ba c
  obtain ⟨c5, c⟩ := He.ba c
  obtain ⟨c6, c⟩ := He.ba c
  obtain ⟨c7, c8⟩ := He.ba c
  unfold SpD.fdB at c0
  unfold fnY at e
  cases q : K.lookup (xcAd K d.cls) with
  | none => rw [q] at c0; cases c0
  | some o =>
    obtain ⟨oc, od, dt, osl⟩ := o
    rw [q] at c0 e
    cases dt with
    | func fd =>
      obtain ⟨n1, n2, n3, n4, n5, n6, n7, n8, n9, n10, n11, n12, n13, n14, n15⟩ := fd
      have e2 : (some (n2, n3, n4, n5, n6, n7.map (·.1), n15) : FnY) = (some (d.qual, d.params, .stmts d.body, d.scope, mainGlobals, ["__class__"], builtinsNs) : FnY) := e
      simp only [Option.some.injEq, Prod.mk.injEq] at e2
      obtain ⟨h2, h3, h4, h5, h6, h7, h8⟩ := e2
      subst h2 h3 h4 h5 h6 h8
      dsimp only at c0
      obtain ⟨kab, kc⟩ := He.ba c0
      obtain ⟨kA, kB⟩ := He.ba kab
      obtain ⟨kc, kd⟩ := He.ba kc
      have kc := of_decide_eq_true kc
      subst kc
      clear kab c0
      have kd := He.dflB_ok kd
      cases n7 with
      | nil => cases h7
      | cons p r =>
        cases r with
        | cons _ _ => simp at h7
        | nil =>
          obtain ⟨nm, cc⟩ := p
          have hn : nm = ("__class__" : Str) := by
            simp only [List.map_cons, List.map_nil, List.cons.injEq, and_true] at h7
            exact h7
          subst hn
          dsimp only at kA
          cases n13 with
          | ref cda =>
            dsimp only at kB
            obtain ⟨k4, k5⟩ := He.ba kB
            cases qc : K.lookup cc with
            | none => rw [qc] at kA; cases kA
            | some oc2 =>
              obtain ⟨a1, a2, a3, a4⟩ := oc2
              rw [qc] at kA
              cases a3 with
              | cell v =>
                cases v with
                | none => cases kA
                | some v =>
                  cases v with
                  | ref D =>
                    have hD : D = He.ga K d.cls := eq_of_beq kA
                    subst hD
                    cases qd : K.lookup cda with
                    | none => rw [qd] at k5; cases k5
                    | some od2 =>
                      obtain ⟨b1, b2, b3, b4⟩ := od2
                      rw [qd] at k5
                      cases b3 with
                      | fields vs =>
                        dsimp only at k5
                        cases qv : vs[2]? with
                        | none => rw [qv] at k5; cases k5
                        | some v2 =>
                          rw [qv] at k5
                          cases v2 with
                          | str fl tf =>
                            have hfl : fl = P.main.file := eq_of_beq k5
                            subst hfl
                            obtain ⟨cdD, hcd⟩ := Option.isSome_iff_exists.mp c2
                            exact ⟨_, cc, cda, ⟨oc, od, osl, n8, n9, n10, n11, n12, n14, rfl, q, kd⟩, k4, ⟨cc, a1, a2, a4, rfl, qc⟩, ⟨ar, ars.map (·.arg), by rw [hpa]; rfl, by rw [hpa]; rfl, hka⟩, ⟨b1, b2, vs, b4, P.main.file, tf, qd, qv, by simp⟩, ⟨cdD, hcd⟩, Option.isSome_iff_exists.mp c1,
                              of_decide_eq_true c3, hks, hkc, hmg, htop, of_decide_eq_true c4, of_decide_eq_true c5, of_decide_eq_true c6, c7⟩
                          | _ => cases k5
                      | _ => cases k5
                  | _ => cases kA
              | _ => cases kA
          | _ => cases kB
    | _ => cases c0
end
open PySem PySem.Spec PyProof.Rows L2 Evl
abbrev AlZ : Type := AlX × Bool × List FnY
def obsZ (fa : List He.Fa) (fn : List He.DefD) (ex : List (PySem.W.Frag → Bool)) (xs : List XcD) (gs : List GeD) (sp : List SpD) (file : Str) (K : PySem.W.Frag) : AlZ := (obsX fa fn ex xs gs file K, sp.all fun d => d.ok K file, sp.map fun d => fnY K d.cls)
def obsZG (n : Nat) (fa : List He.Fa) (fn : List He.DefD) (ex : List (PySem.W.Frag → Bool)) (xs : List XcD) (gs : List GeD) (sp : List SpD) (file : Str) (g : Addr → Option Obj) : AlZ := obsZ fa fn ex xs gs sp file (He.frG g (cStatics :: He.asD g n))
structure SaysZ (fa : List He.Fa) (fn : List He.DefD) (ex : List (PySem.W.Frag → Bool)) (xs : List XcD) (gs : List GeD) (sp : List SpD) (file : Str) (K : PySem.W.Frag) : Prop where
  s : SaysX fa fn ex xs gs file K
  o : (sp.all fun d => d.ok K file) = true
  v : (sp.map fun d => fnY K d.cls) = sp.map SpD.val
def hookZ (n : Nat) (fa : List He.Fa) (fn : List He.DefD) (ex : List (PySem.W.Frag → Bool)) (xs : List XcD) (gs : List GeD) (sp : List SpD) (file : Str) : PySem.W.Hook where
  α := AlZ
  obs := fun s => obsZG n fa fn ex xs gs sp file s.heap.get?
  val := fun _ => ((He.valD fn, true, xs.map XcD.val, gs.map GeD.val), true, sp.map SpD.val)
  says := fun _ h => ∃ K : PySem.W.Frag, K.In h ∧ SaysZ fa fn ex xs gs sp file K
  of := fun _ _ e => ⟨_, He.frG_in, ⟨congrArg (fun z : AlZ => z.1.1) e, congrArg (fun z : AlZ => z.1.2.1) e, congrArg (fun z : AlZ => z.1.2.2.1) e, congrArg (fun z : AlZ => z.1.2.2.2) e⟩, congrArg (fun z : AlZ => z.2.1) e, congrArg (fun z : AlZ => z.2.2) e⟩
  keeps := fun _ _ _ ⟨K, hK, c⟩ k => ⟨K, PySem.W.Frag.In.keeps hK k, c⟩
theorem obsZG_eq {n : Nat} {fa : List He.Fa} {fn : List He.DefD} {ex : List (PySem.W.Frag → Bool)} {xs : List XcD} {gs : List GeD} {sp : List SpD} {file : Str} {g : Addr → Option Obj} {s : Shared} (h : ∀ a, g a = s.heap.get? a) : obsZG n fa fn ex xs gs sp file g = (hookZ n fa fn ex xs gs sp file).obs s := by
  have e : g = s.heap.get? := funext h
  rw [e] <;> rfl
structure TxZ (fa : List He.Fa) (fn : List He.DefD) (es : List (PySem.W.Frag → Bool)) (xs : List XcD) (gs : List GeD) (sp : List SpD) (file : Str) (K : PySem.W.Frag) (mg : Str → Option Value) : Prop extends TxX fa fn es xs gs file K mg where
  so : (sp.all fun d => d.ok K file) = true
  sv : (sp.map fun d => fnY K d.cls) = sp.map SpD.val
section
variable {fa : List He.Fa} {fn : List He.DefD} {es : List (PySem.W.Frag → Bool)} {xs : List XcD} {gs : List GeD} {sp : List SpD} {file : Str} {K : PySem.W.Frag} {mg : Str → Option Value}
theorem TxZ.mk' {h : Heap} (KX : K.In h) (G : h.Ns mainGlobals mg) (c : SaysZ fa fn es xs gs sp file K) : TxZ fa fn es xs gs sp file K mg := ⟨TxX.mk' KX G c.s, c.o, c.v⟩
theorem TxZ.spd (T : TxZ fa fn es xs gs sp file K mg) (i : Nat) {d : SpD} (h : sp[i]? = some d) : fnY K d.cls = d.val ∧ d.ok K file = true := by
  have e2 : (sp.map fun d => fnY K d.cls)[i]? = (sp.map SpD.val)[i]? := by rw [T.sv]
  rw [List.getElem?_map, List.getElem?_map, h] at e2
  exact ⟨Option.some.inj e2, List.all_eq_true.mp T.so d (List.mem_of_getElem? h)⟩
end
end Sim

/-! askers: calls that read the lent list and may raise; loops over a lent list that an expression gives -/
namespace Sim
open PySem L2 Evl
section
variable {K : PySem.W.Frag} {C : Addr} {σ : L2.St} {G0 H0 G H G2 H2 W : Hp} {ls : List Addr} {cs : Cs} {l : Addr} {ta : TA} {X : XK} {te to tl : TE} {α β κ ι γ : Type} {R : Rep α} {S : Rep β} {T : Rep γ} {B : Rep κ} {A : AR ι} {D : Ends} {tz tu : TS} {g : TG} {ns : List Str} {fl : α → List Pd}
/-- reads the list at ad i, may raise -/
def PXB (K : PySem.W.Frag) (A : AR ι) (ad : ι → Addr) (B : Rep κ) (T : Rep γ) (f : List κ → ι → Option (Xn ⊕ γ)) : Sp := fun vs H Q E => ∃ G i ys r, Ex G H ∧ A.r G vs i ∧ Lent G H (ad i) B ys ∧ f ys i = some r ∧
  (∀ e, r = .inl e → ∀ d H2 G2, Up G H G2 H2 → Xat G2 e d → E (.ref (He.ga K e.cls)) (some d) H2) ∧ (∀ x, r = .inr x → ∀ v H2 G2, Up G H G2 H2 → T.r G2 v x → Q v H2)
/-- o.m(..) of such a def -/
theorem ex_methB {m : Option α} {mi : Option ι} {me : Str} {ad : α × ι → Addr} {f : List κ → α × ι → Option (Xn ⊕ γ)} {ys : List κ} {Wx : L2.St → XK} (h : E to σ G W (rObj C ns fl) m) (ha : EA ta σ G W A mi) (L : Lent G W l B ys) (hl : ∀ o i, m = some o → mi = some i → ad (o, i) = l) (hi : ns.contains me = false) :
    EX K (tMethT C me (PXB K (aC (rObj C ns fl) A) ad B T f) Wx to ta) σ G W T (m >>= fun o => mi >>= fun i => f ys (o, i)) (Wx σ) := fun z hz H e e' Q qx q => by
  obtain ⟨x, hx, hz⟩ := bindS hz
  obtain ⟨y, hy, hz⟩ := bindS hz
  refine h x hx H e e' _ fun v H1 G1 u r => ?_
  obtain ⟨a, dx, fs, rfl, h2, h3⟩ := r
  refine ⟨a, dx, fs, rfl, u.gh a _ h2, look_no h3.1 hi, ?_⟩
  refine (ha.mono u.gg (e'.trans u.hh)) y hy H1 u.gh (Ex.refl _) _ fun vs H3 G3 u3 r3 => ?_
  have := hl x y hx hy
  subst this
  exact ⟨G3, (x, y), ys, z, u3.gh, ⟨.ref a, vs, rfl, ⟨a, dx, fs, rfl, u3.gg a _ h2, h3.mono u3.gg⟩, r3⟩, (L.up e' u).up (Ex.refl _) u3, hz, fun x hx d H4 G4 u4 r4 => qx x hx d H4 G4 ((u.trans u3).trans u4) r4, fun x hx v H4 G4 u4 r4 => q x hx v H4 G4 ((u.trans u3).trans u4) r4⟩
/-- for .. in o.f, the list there lent -/
theorem x_forNE {xs : List α} {R : Rep α} (w : Wo G0 H0 [] G H []) (L : Lent G0 H0 l R xs) (he : E tl σ G H rA (some l)) (P : Nat → Hp → Hp → L2.St → Prop) (hP : ∀ i G' H' σ', P i G' H' σ' → Wo G0 H0 [] G' H' [])
    (h0 : ∀ G' H', Wo G0 H0 [] G' H' [] → Ex G G' → P 0 G' H' σ)
    (hs : ∀ i x v σ' G' H', xs[i]? = some x → P i G' H' σ' → R.r G' v x → g v σ' H' fun σ2 H2 => tu { D with nx := fun σ' H' => ∃ G', P (i + 1) G' H' σ', ct := fun σ' H' => ∃ G', P (i + 1) G' H' σ', bk := tz D } σ2 H2)
    (hd : ∀ σ' G' H', P xs.length G' H' σ' → tz D σ' H') : tSeq (tFor (iList K tl) g tu) tz D σ H := by
  obtain ⟨vs, h2, h3⟩ := L.at_
  refine he l rfl H w.ex (Ex.refl _) _ fun v H1 G1 u r => ?_
  cases r
  have w1 := w.up u
  refine ⟨l, rfl, ⟨vs, Or.inl (Or.inl (w1.f.fr _ _ h2 List.not_mem_nil))⟩, for_list (K := K) (a := l) (xs := vs) (D := { D with nx := tz D }) (fun i σ' H' => ∃ G', P i G' H' σ') ⟨G1, h0 G1 H1 w1 u.gg⟩ ?_ ?_ ?_⟩
  · rintro i σ' H' _ ⟨G', p⟩
    exact Or.inl (Or.inl ((hP _ _ _ _ p).f.fr _ _ h2 List.not_mem_nil))
  · rintro i y σ' H' hy ⟨G', p⟩
    obtain ⟨x, hx, r⟩ := pr_get' h3 hy
    exact hs i x y σ' G' H' hx p (R.mono (hP _ _ _ _ p).f.gg r)
  · rintro σ' H' ⟨G', p⟩
    rw [h3.length] at p
    exact hd σ' G' H' p
/-- the lent list as a cell of the def's own -/
theorem Wo.own1 {ys : List κ} (w : Wo G0 H0 [] G H []) (L : Lent G0 H0 l B ys) : Wo G0 H0 [l] G H [(l, cL B ys)] := by
  have L1 := w.lentOf L List.not_mem_nil
  obtain ⟨vs, h2, h3⟩ := L1.at_
  refine ⟨⟨w.ex, fun c hc => ?_, List.nodup_cons.mpr ⟨List.not_mem_nil, List.nodup_nil⟩⟩, ⟨w.f.gg, fun a o h _ => w.f.fr a o h List.not_mem_nil, w.f.nw, w.f.st⟩, fun c hc => ?_⟩
  · rw [List.mem_singleton.mp hc]
    exact ⟨L1.n, _, h2, vs, rfl, h3⟩
  · rw [List.mem_singleton.mp hc]
    exact .inl (List.mem_singleton.mpr rfl)
/-- e.append(..), e an expression that gives the list's place -/
theorem x_appE {j : Nat} {m : Option α} {x : α} {xs : List α} {R : Rep α} (w : Wo G0 H0 ls G H cs) (hc : cs[j]? = some (l, cL R xs)) (hs : sz xs.length = true) (ho : E to σ G H rA (some l)) (h : E te σ G H R m) (hm : m = some x)
    (k : ∀ H2 G2, Wo G0 H0 ls G2 H2 (cs.set j (l, cL R (xs ++ [x]))) → Ex G G2 → tz D σ H2) : tSeq (tDrop (tBM K "list" rAppend to (tCons te tNil))) tz D σ H := by
  refine ho l rfl H w.ex (Ex.refl _) _ fun v H1 G1 u r => ?_
  cases r
  have w1 := w.up u
  obtain ⟨_, o, h2, vs, rfl, h3⟩ := w1.w.getAt hc
  refine ⟨.inl ⟨rfl, vs, Or.inl (Or.inl h2)⟩, c_e (Q := fun x H1 => rAppend (.ref l) [x] H1 fun _ H3 => tz D σ H3) w1 (h.mono u.gg u.hh) hm fun v H3 G3 w3 e r => ?_⟩
  obtain ⟨_, o3, k2, vs3, rfl, k3⟩ := w3.w.getAt hc
  refine ⟨l, vs3, v, rfl, rfl, k2, by rw [k3.length]; exact sz_l hs, k _ _ (w3.writeAt hc ⟨vs3 ++ [v], rfl, pr_app k3 (.cons r .nil)⟩) (u.gg.trans e)⟩
/-- the lent list read at the heap itself -/
theorem e_lentA {ys : List κ} (h : E te σ G W rA (some l)) (L : Lent G W l B ys) (e0 : Ex G W) : E te σ W W (rL B) (some ys) := fun z hz H e e' Q q => by
  cases hz
  refine h l rfl H (e0.trans e) e' _ fun v H2 G2 u r => ?_
  cases r
  exact q _ H2 W (Up.same e u.hh) (L.rl e0)
/-- the making of such an object, one argument a lent list -/
def PIAL (C : Addr) (A : AR ι) (ad : ι → Addr) (B0 : Rep β) (B : Rep κ) (ns : List Str) (fl : Addr → α → List Pd) (f : List β → ι → Option α) : Sp := fun vs H Q _ => ∃ G x ws i ys o, vs = .ref x :: ws ∧ Wd G H [(x, cI C [] [])] ∧ A.r G ws i ∧ Lent G H (ad i) B0 ys ∧ f ys i = some o ∧
  ∀ H2 G2 p, H p = none → Fr G H G2 H2 [x] → Wd G2 H2 [(p, cL B []), (x, cI C ns (fl p o))] → Q .non H2
/-- v = C(..), one argument a lent list -/
theorem x_makeAL {a : Nat} {B0 : Rep β} {ad : ι → Addr} {fl : Addr → α → List Pd} {f : List β → ι → Option α} {mi : Option ι} {i : ι} {ys : List β} {z : α} (w : Wo G0 H0 ls G H cs) (ha : EA ta σ G H A mi) (hi : mi = some i) (L : Lent G H l B0 ys) (hl : ad i = l) (hz : f ys i = some z)
    (k : ∀ v p H2 G2, H0 p = none → Wo G0 H0 ls G2 H2 ((p, cL B []) :: cs) → Ex G G2 → (rObj C ns (fl p)).r G2 v z → tz D (σ.set a (some v)) H2) : tSeq (tAsg (tMake C (PIAL C A ad B0 B ns fl f) [] X ta) (gName a)) tz D σ H := by
  subst hl
  refine ha i hi H w.ex (Ex.refl _) _ fun vs H1 G1 u1 r1 => ?_
  intro x dx nx ndx ne
  rw [List.append_nil]
  have w1 : Wd G1 (upd (upd H1 dx (.own x)) x (.ins C dx [])) [(x, cI C [] [])] := new_ins u1.gh nx ndx ne
  have L1 := L.up (Ex.refl _) u1
  have L2 : Lent G1 (upd (upd H1 dx (.own x)) x (.ins C dx [])) (ad i) B0 ys := by
    obtain ⟨vs', h2, h3⟩ := L1.at_
    exact ⟨L1.n, vs', by rw [upd_ne (ne_of_none h2 nx), upd_ne (ne_of_none h2 ndx)]; exact h2, h3⟩
  refine ⟨G1, x, vs, i, ys, z, rfl, w1, r1, L2, hz, fun H2 G2 p np fr w2 => ⟨rfl, ?_⟩⟩
  have px : p ≠ x := fun z => by rw [z, upd_same] at np; cases np
  have np1 : H1 p = none := by
    rw [upd_ne px] at np
    by_cases q : p = dx
    · rw [q]; exact ndx
    · rw [upd_ne q] at np; exact np
  obtain ⟨G3, k1, k2, k3, dx', fs, k4, k5⟩ := ob_freeze w2.tail
  have hh : Ex H1 H2 := fun a o h => by
    have na : a ≠ x := ne_of_none h nx
    have nd : a ≠ dx := ne_of_none h ndx
    exact fr.fr a o (by rw [upd_ne na, upd_ne nd]; exact h) fun z => na (List.mem_singleton.mp z)
  have up : Up G1 H1 G3 H2 := ⟨fr.gg.trans k1, k2, hh, fun a h1 h2 => by
    have na : a ≠ x := fun z => by subst z; exact h1 nx
    have nd : a ≠ dx := fun z => by subst z; exact h1 ndx
    exact k3 a na (fr.nw a (by rw [upd_ne na, upd_ne nd]; exact h1) h2)⟩
  have u := u1.trans up
  obtain ⟨h1, o, h2, h3⟩ := w2.head
  have w3 : Wd G3 H2 [(p, cL B [])] := ⟨k2, fun c hc => by
    rw [List.mem_singleton.mp hc]
    exact ⟨k3 p px h1, o, h2, (cL B []).mono k1 h3⟩, List.nodup_cons.mpr ⟨List.not_mem_nil, List.nodup_nil⟩⟩
  have npH : H p = none := by
    cases q : H p with
    | none => rfl
    | some o => rw [u1.hh p o q] at np1; cases np1
  have n0 : H0 p = none := by
    cases q : H0 p with
    | none => rfl
    | some o => exact absurd npH (w.f.st p (by rw [q]; simp))
  exact k (.ref x) p H2 G3 n0 (w.newC npH u w3) u.gg ⟨x, dx', fs, rfl, k4, k5⟩
/-! ### tests, opened -/
theorem o_or {t u : TT} {Q : Bool → Hp → Prop} (h : t σ H fun b H1 => if b = true then Q true H1 else u σ H1 Q) : tOr t u σ H Q := h
theorem o_tt {P Q : Prop} (h : P) : if true = true then P else Q := by rw [if_pos rfl]; exact h
theorem o_ff {P Q : Prop} (h : Q) : if false = true then P else Q := by rw [if_neg (by decide)]; exact h
end
end Sim

/-! askers handed to defs; parts of mixed data -/
namespace Sim
open PySem L2 Evl
section
variable {K : PySem.W.Frag} {C : Addr} {σ : L2.St} {G0 H0 G H G2 H2 W : Hp} {ls : List Addr} {cs : Cs} {l : Addr} {ta : TA} {X : XK} {te to tl : TE} {α β κ ι γ : Type} {R : Rep α} {S : Rep β} {T : Rep γ} {B : Rep κ} {A : AR ι} {D : Ends} {tz tu : TS}
/-- a call that may change the list at ad i -/
def PQ (A : AR ι) (ad : ι → Addr) (B : Rep κ) (T : Rep γ) (f : ι → List κ → Option (γ × List κ)) : Sp := fun vs H Q _ => ∃ G i ys x ys', A.r G vs i ∧ Wd G H [(ad i, cL B ys)] ∧ f i ys = some (x, ys') ∧
  ∀ v H2 G2, Fr G H G2 H2 [ad i] → Wd G2 H2 [(ad i, cL B ys')] → T.r G2 v x → Q v H2
theorem c_pq {ad : ι → Addr} {f : ι → List κ → Option (γ × List κ)} {vs : List V} {j : Nat} {i : ι} {ys ys' : List κ} {x : γ} {Q : VK} {E : XK} (w : Wo G0 H0 ls G H cs) (hc : cs[j]? = some (ad i, cL B ys)) (hv : A.r G vs i) (hz : f i ys = some (x, ys'))
    (k : ∀ v H2 G2, Wo G0 H0 ls G2 H2 (cs.set j (ad i, cL B ys')) → Ex G G2 → T.r G2 v x → Q v H2) : PQ A ad B T f vs H Q E :=
  ⟨G, i, ys, x, ys', hv, w.sub1 hc, hz, fun v H2 G2 fr w2 rr => k v H2 G2 (w.call1 hc fr w2) fr.gg rr⟩
/-- an object's list, read at the heap itself -/
theorem e_cellA {j : Nat} {ys : List κ} (w : Wo G0 H0 ls G H cs) (hc : cs[j]? = some (l, cL B ys)) (h : E te σ G H rA (some l)) : E te σ H H (rL B) (some ys) := e_lentA h (w.lent hc) w.ex
/-! mixed data -/
def ixD : PyData → Nat → Option PyData
  | .tuple ds, k => ds[k]?
  | _, _ => none
def intD : PyData → Option Int
  | .int i => some i
  | _ => none
theorem pl_get : ∀ {ds : List PyData} {k : Nat} {d : PyData}, PyData.plainAll ds = true → ds[k]? = some d → d.plain = true ∧ d.depth ≤ PyData.depthAll ds
  | [], k, d, _, h => by simp at h
  | x :: xs, 0, d, h, e => by
    have e : x = d := by simpa using e
    subst e
    have h := (Bool.and_eq_true_iff.mp h).1
    refine ⟨h, ?_⟩
    simp only [PyData.depthAll]
    omega
  | x :: xs, k + 1, d, h, e => by
    have e : xs[k]? = some d := by simpa using e
    obtain ⟨h1, h2⟩ := pl_get (Bool.and_eq_true_iff.mp h).2 e
    refine ⟨h1, ?_⟩
    simp only [PyData.depthAll]
    omega
theorem dp_get {H : Hp} {vs : List V} {ds : List PyData} (h : DpAll K H vs ds) : ∀ {k : Nat} {d : PyData}, ds[k]? = some d → ∃ v, vs[k]? = some v ∧ Dp K H v d := by
  induction ds generalizing vs with
  | nil => intro k d e; simp at e
  | cons x ds ih =>
    intro k d e
    cases h with
    | cons h t =>
      cases k with
      | zero =>
        have e : x = d := by simpa using e
        subst e
        exact ⟨_, rfl, h⟩
      | succ k =>
        obtain ⟨w, h1, h2⟩ := ih t (k := k) (by simpa using e)
        exact ⟨w, by simpa using h1, h2⟩
theorem e_ixD (k : Nat) (hk : k < 100) {m : Option PyData} (h : E te σ G W (rD K) m) : E (tOp (rIxT K) te (tC (.int (k : Int)))) σ G W (rD K) (m >>= fun d => ixD d k) := fun z hz H e e' Q q => by
  obtain ⟨d, hd, hz⟩ := bindS hz
  refine h d hd H e e' _ fun v H1 G1 u r => ?_
  obtain ⟨h1, h2, h3⟩ := r
  cases h1 with
  | tup hq ha =>
    rename_i a xs ds
    obtain ⟨w, hw, hw2⟩ := dp_get ha (show ds[k]? = some z from hz)
    obtain ⟨p1, p2⟩ := pl_get (show PyData.plainAll ds = true from h2) (show ds[k]? = some z from hz)
    have hq' : SqT K H1 a xs := ex_t u.gh hq
    refine ⟨a, xs, k, w, rfl, rfl, hq', ?_, q w H1 G1 u ⟨hw2, p1, ?_⟩⟩
    · have hl : k < xs.length := (List.getElem?_eq_some_iff.mp hw).1
      show (ixN xs.length (k : Int)).bind (fun j => xs[j]?) = some w
      rw [show ixN xs.length (k : Int) = some k by
        unfold ixN
        simp; omega]
      exact hw
    · have : (PyData.tuple ds).depth = PyData.depthAll ds + 1 := by simp only [PyData.depth]
      omega
  | _ => cases hz
theorem e_intD {m : Option PyData} (h : E te σ G W (rD K) m) : E te σ G W rI (m >>= fun d => intD d) := fun z hz H e e' Q q => by
  obtain ⟨d, hd, hz⟩ := bindS hz
  refine h d hd H e e' _ fun v H1 G1 u r => ?_
  obtain ⟨h1, _, _⟩ := r
  cases h1 with
  | int i =>
    cases hz
    exact q _ H1 G1 u rfl
  | _ => cases hz
end
/-- facts of the text: one def under two classes; a def's record is a function's -/
def eqmB (C D m : Str) (K : PySem.W.Frag) : Bool := decide (He.ma K (He.ga K C) m = He.ma K (He.ga K D) m)
theorem eqm_ok {C D m : Str} {K : PySem.W.Frag} (h : eqmB C D m K = true) : He.ma K (He.ga K C) m = He.ma K (He.ga K D) m := of_decide_eq_true h
def fnmB (C m : Str) (K : PySem.W.Frag) : Bool := PySem.W.fnIn K (He.ma K (He.ga K C) m)
theorem fnm_ok {C m : Str} {K : PySem.W.Frag} (h : fnmB C m K = true) : PySem.W.fnIn K (He.ma K (He.ga K C) m) = true := h
theorem held_if {CX : CXT} {P : Program} {w : World} {K : PySem.W.Frag} {mg : Str → Option Value} {base : Heap} {k : Nat} {C0 : Addr} {sp0 : Sp} (h0 : HeldO P w K mg base CX k C0 sp0) : ∀ C sp, (if C = C0 then some sp0 else none) = some sp → HeldO P w K mg base CX k C sp := fun C sp h => by
  by_cases q : C = C0
  · rw [if_pos q] at h
    cases h
    subst q
    exact h0
  · rw [if_neg q] at h
    cases h
end Sim

/-! a field written again -/
namespace Sim
open PySem L2 Evl
theorem putF_at {f : Str} {v : V} : ∀ {fs : List (Str × V)} {n : Nat}, (fs.map (·.1)).findIdx? (fun x => x == f) = some n → (putF f v fs).map (·.1) = fs.map (·.1) ∧ (putF f v fs).map (·.2) = (fs.map (·.2)).set n v
  | [], n, h => by simp at h
  | (g, x) :: r, n, h => by
    rw [List.map_cons, List.findIdx?_cons] at h
    by_cases e : g = f
    · have hb : (g == f) = true := by rw [e]; simp
      rw [if_pos hb] at h
      cases h
      unfold putF
      rw [if_pos e]
      exact ⟨rfl, rfl⟩
    · have hb : ¬ ((g == f) = true) := by simpa using e
      rw [if_neg hb] at h
      obtain ⟨m, hm, rfl⟩ := Option.map_eq_some_iff.mp h
      obtain ⟨h1, h2⟩ := putF_at (v := v) hm
      unfold putF
      rw [if_neg e, List.map_cons, List.map_cons, List.map_cons, List.map_cons, h1, h2]
      exact ⟨rfl, rfl⟩
theorem pr_setP {P : V → Pd → Prop} {v : V} {x : Pd} (h : P v x) : ∀ {vs : List V} {xs : List Pd} {n : Nat}, Paired P vs xs → Paired P (vs.set n v) (xs.set n x)
  | _, _, _, .nil => .nil
  | _, _, 0, .cons _ t => .cons h t
  | _, _, n + 1, .cons h' t => .cons h' (pr_setP h t)
section
variable {K : PySem.W.Frag} {C : Addr} {σ : L2.St} {G0 H0 G H : Hp} {ls : List Addr} {cs : Cs} {l : Addr} {te : TE} {β : Type} {S : Rep β} {D : Ends} {tz : TS} {ns : List Str}
/-- self.f = e, f there already -/
theorem x_fldU {i j n : Nat} {f : Str} {m : Option β} {x : β} {ps : List Pd} (w : Wo G0 H0 ls G H cs) (hc : cs[j]? = some (l, cI C ns ps)) (hi : σ[i]? = some (some (.ref l))) (h : E te σ G H S m) (hm : m = some x) (hC : Cls K C) (hn : NoAttr K C f) (hf : ns.findIdx? (fun x => x == f) = some n) (hs : ns.length < 1000)
    (k : ∀ H2 G2, Wo G0 H0 ls G2 H2 (cs.set j (l, cI C ns (ps.set n (pd S x)))) → Ex G G2 → tz D σ H2) : tSeq (sFld K (tVar i) te f) tz D σ H :=
  h x hm H w.ex (Ex.refl _) (fun y H1 => tVar i σ H1 fun x H2 => ∃ a C dx fs, x = .ref a ∧ H2 a = some (.ins C dx fs) ∧ Cls K C ∧ NoAttr K C f ∧ fs.length < 1000 ∧ tz D σ (upd H2 a (.ins C dx (putF f y fs)))) fun v H3 G3 u r => by
    have w3 := w.up u
    obtain ⟨_, o3, k2, dx, fs, rfl, k3⟩ := w3.w.getAt hc
    refine ⟨.ref l, hi, l, C, dx, fs, rfl, k2, hC, hn, by rw [← List.length_map (f := (·.1)), k3.1]; exact hs, ?_⟩
    obtain ⟨q1, q2⟩ := putF_at (f := f) (v := v) (fs := fs) (n := n) (by rw [k3.1]; exact hf)
    refine k _ _ (w3.writeAt hc ⟨dx, _, rfl, ?_, ?_⟩) u.gg
    · rw [q1, k3.1]
    · rw [q2]; exact pr_setP (by exact r) k3.2
end
end Sim

/-! cells of any kind, lent to a def that only reads them -/
namespace Sim
open PySem L2 Evl
section
variable {σ : L2.St} {G0 H0 G H G1 H1 W : Hp} {ls : List Addr} {cs : Cs} {l : Addr} {cp0 : CP} {te : TE} {α β : Type} {R : Rep α} {S : Rep β} {cp : β → CP}
structure LentP (G W : Hp) (l : Addr) (cp : CP) : Prop where
  n : G l = none
  at_ : ∃ o, W l = some o ∧ cp.p G o
theorem Wo.lentP {i : Nat} (w : Wo G0 H0 ls G H cs) (h : cs[i]? = some (l, cp0)) : LentP G H l cp0 := by
  obtain ⟨h1, o, h2, h3⟩ := w.w.getAt h
  exact ⟨h1, o, h2, h3⟩
theorem Wo.lentPOf (w : Wo G0 H0 ls G H cs) (L : LentP G0 H0 l cp0) (h : l ∉ ls) : LentP G H l cp0 := by
  obtain ⟨o, h2, h3⟩ := L.at_
  exact ⟨w.f.nw _ (by rw [h2]; simp) L.n, o, w.f.fr _ _ h2 h, cp0.mono w.f.gg h3⟩
theorem LentP.up (L : LentP G W l cp0) (e' : Ex W H) (u : Up G H G1 H1) : LentP G1 H1 l cp0 := by
  obtain ⟨o, h2, h3⟩ := L.at_
  exact ⟨u.nw _ (by rw [e' _ _ h2]; simp) L.n, o, u.hh _ _ (e' _ _ h2), cp0.mono u.gg h3⟩
theorem LentP.rl {x : β} (F : Fz cp S) (L : LentP G W l (cp x)) (e : Ex G W) : S.r W (.ref l) x := by
  obtain ⟨o, h2, h3⟩ := L.at_
  exact F h3 e h2
/-- the lent thing read off a variable, at the heap itself -/
theorem e_lentP {i : Nat} {x : β} (F : Fz cp S) (hi : σ[i]? = some (some (.ref l))) (L : LentP G W l (cp x)) (e0 : Ex G W) : E (tVar i) σ W W S (some x) := e_var hi (L.rl F e0)
variable {K : PySem.W.Frag} {C : Addr} {ta : TA} {X : XK} {κ ι δ γ : Type} {A : AR ι} {B : Rep κ} {D : Ends} {tz : TS} {ns : List Str}
/-- the making of an object with a new list, some arguments lent (le tells them) -/
def PIAM (C : Addr) (A : AR ι) (le : ι → δ → Cs) (B : Rep κ) (ns : List Str) (fl : Addr → α → List Pd) (f : δ → ι → Option α) : Sp := fun vs H Q _ => ∃ G x ws i ys o, vs = .ref x :: ws ∧ Wd G H [(x, cI C [] [])] ∧ A.r G ws i ∧ (∀ c ∈ le i ys, LentP G H c.1 c.2) ∧ f ys i = some o ∧
  ∀ H2 G2 p, H p = none → Fr G H G2 H2 [x] → Wd G2 H2 [(p, cL B []), (x, cI C ns (fl p o))] → Q .non H2
theorem x_makeAM {a : Nat} {le : ι → δ → Cs} {fl : Addr → α → List Pd} {f : δ → ι → Option α} {mi : Option ι} {i : ι} {ys : δ} {z : α} (w : Wo G0 H0 ls G H cs) (ha : EA ta σ G H A mi) (hi : mi = some i) (L : ∀ c ∈ le i ys, LentP G H c.1 c.2) (hz : f ys i = some z)
    (k : ∀ v p H2 G2, H0 p = none → Wo G0 H0 ls G2 H2 ((p, cL B []) :: cs) → Ex G G2 → (rObj C ns (fl p)).r G2 v z → tz D (σ.set a (some v)) H2) : tSeq (tAsg (tMake C (PIAM C A le B ns fl f) [] X ta) (gName a)) tz D σ H := by
  refine ha i hi H w.ex (Ex.refl _) _ fun vs H1 G1 u1 r1 => ?_
  intro x dx nx ndx ne
  rw [List.append_nil]
  have w1 : Wd G1 (upd (upd H1 dx (.own x)) x (.ins C dx [])) [(x, cI C [] [])] := new_ins u1.gh nx ndx ne
  have L2 : ∀ c ∈ le i ys, LentP G1 (upd (upd H1 dx (.own x)) x (.ins C dx [])) c.1 c.2 := fun c hc => by
    have L1 := (L c hc).up (Ex.refl _) u1
    obtain ⟨o', h2, h3⟩ := L1.at_
    exact ⟨L1.n, o', by rw [upd_ne (ne_of_none h2 nx), upd_ne (ne_of_none h2 ndx)]; exact h2, h3⟩
  refine ⟨G1, x, vs, i, ys, z, rfl, w1, r1, L2, hz, fun H2 G2 p np fr w2 => ⟨rfl, ?_⟩⟩
  have px : p ≠ x := fun z => by rw [z, upd_same] at np; cases np
  have np1 : H1 p = none := by
    rw [upd_ne px] at np
    by_cases q : p = dx
    · rw [q]; exact ndx
    · rw [upd_ne q] at np; exact np
  obtain ⟨G3, k1, k2, k3, dx', fs, k4, k5⟩ := ob_freeze w2.tail
  have hh : Ex H1 H2 := fun a o h => by
    have na : a ≠ x := ne_of_none h nx
    have nd : a ≠ dx := ne_of_none h ndx
    exact fr.fr a o (by rw [upd_ne na, upd_ne nd]; exact h) fun z => na (List.mem_singleton.mp z)
  have up : Up G1 H1 G3 H2 := ⟨fr.gg.trans k1, k2, hh, fun a h1 h2 => by
    have na : a ≠ x := fun z => by subst z; exact h1 nx
    have nd : a ≠ dx := fun z => by subst z; exact h1 ndx
    exact k3 a na (fr.nw a (by rw [upd_ne na, upd_ne nd]; exact h1) h2)⟩
  have u := u1.trans up
  obtain ⟨h1, o, h2, h3⟩ := w2.head
  have w3 : Wd G3 H2 [(p, cL B [])] := ⟨k2, fun c hc => by
    rw [List.mem_singleton.mp hc]
    exact ⟨k3 p px h1, o, h2, (cL B []).mono k1 h3⟩, List.nodup_cons.mpr ⟨List.not_mem_nil, List.nodup_nil⟩⟩
  have npH : H p = none := by
    cases q : H p with
    | none => rfl
    | some o => rw [u1.hh p o q] at np1; cases np1
  have n0 : H0 p = none := by
    cases q : H0 p with
    | none => rfl
    | some o => exact absurd npH (w.f.st p (by rw [q]; simp))
  exact k (.ref x) p H2 G3 n0 (w.newC npH u w3) u.gg ⟨x, dx', fs, rfl, k4, k5⟩
/-! dict(d), d a dict -/
abbrev rDcD : List V → Hp → VK → Prop := fun xs H Q => ∃ (a : Addr) (kvs : List (Key × V)), xs = [.ref a] ∧ Rd H a (.dK kvs) ∧ ∀ p, H p = none → Q (.ref p) (upd H p (.dK kvs))
theorem ec_dictM {kf : κ → Key} {td : TE} {m : Option (List (κ × α))} (h : E td σ G W (rM kf R) m) : EC (tCB rDcD (tCons td tNil)) σ G W (cM kf R) m := fun x hx H e e' Q q => by
  refine h x hx H e e' _ fun v H1 G1 u r => ?_
  obtain ⟨a, ws, rfl, h2, h3⟩ := r
  refine ⟨a, ws, rfl, .inl (u.gh a _ h2), fun p hp => ?_⟩
  have hp1 : G1 p = none := fresh_back u.gh hp
  refine q p _ G1 (fresh_back u.hh hp) (u.trans (up_new u.gh hp)) ⟨u.gh.trans (Ex.new hp), fun c hc => ?_, List.nodup_cons.mpr ⟨List.not_mem_nil, List.nodup_nil⟩⟩
  rw [List.mem_singleton.mp hc]
  exact ⟨hp1, _, upd_same, ws, rfl, h3⟩
end
end Sim

/-! TableAsker: an __init__ with a default; arguments read at the heap itself -/
namespace Sim
open PySem PySem.Spec PyProof.Rows L2 Evl
theorem SupP.binds1 {P : Program} {K : PySem.W.Frag} {mg : Str → Option Value} {D C f g : Addr} {fd : FuncData} {F : NdefX.NF} {ps : List Str} {dvs : List V} (Y : SupP P K mg D C f g fd F ps dvs) (n j : Nat) (hd : dvs ≠ []) (hn : n + (dvs.length - j) = ps.length)
    (h : ∀ (T : Addr) (kV doc pm : Value) (an : Option Addr) (ct : Value) (us its : List Value), us.length = n → its.length = dvs.length →
      ∃ k, bindArgs (PySem.W.fnX F.name F.qual F.params F.body F.scope F.cl (.ref T) kV doc pm an (.ref F.c) ct) ⟨us, []⟩ = seqItems? (.ref T) >>= k ∧ k (some its.toArray) = pure (ps.zip (us ++ its.drop j))) : ∃ ds, Vals (dvs.drop j) ds ∧ Binds K fd ps ds := by
  obtain ⟨oc, od, osl, dV, kV, doc, pm, an, ct, rfl, lk, hD⟩ := Y.lk
  rcases hD with ⟨e, _⟩ | ⟨_, T, o, its, m, rfl, lT, oT, rT⟩
  · exact absurd e hd
  · refine ⟨its.drop j, rT.drop j, fun s us X hlen => ?_⟩
    have l1 : its.length = dvs.length := rT.length.symm
    have l2 : us.length = n := by
      rw [List.length_append, List.length_drop, l1] at hlen
      omega
    obtain ⟨k, e1, e2⟩ := h T kV doc pm an ct us its l2 l1
    refine BindsTo.of_looks fun M => ?_
    rw [e1]
    exact looks_items X lT oT (.of_pure e2)
section
variable {K : PySem.W.Frag} {C : Addr} {σ : L2.St} {G0 H0 G H G2 H2 W : Hp} {ls : List Addr} {cs : Cs} {l : Addr} {ta tb tc : TE} {td : TE} {X : XK} {α β δ κ ι : Type} {R : Rep ι} {S : Rep β} {S2 : Rep δ} {B : Rep κ} {D : Ends} {tz : TS} {ns : List Str}
theorem keepM {κ : Type} [DecidableEq κ] {kf : κ → Key} {R : Rep α} (sc : R.Sc) {v : V} {x : List (κ × α)} (h : (rM kf R).r H v x) (k : ∀ a ws, H a = some (.dK ws) → H2 a = some (.dK ws)) : (rM kf R).r H2 v x := by
  obtain ⟨a, ws, rfl, h2, h3⟩ := h
  exact ⟨a, ws, rfl, k _ _ h2, Paired.mapP h3 fun _ _ q => ⟨q.1, sc q.2⟩⟩
theorem keepL {R : Rep α} (sc : R.Sc) {v : V} {x : List α} (h : (rL R).r H v x) (k : ∀ a ws, H a = some (.lst ws) → H2 a = some (.lst ws)) : (rL R).r H2 v x := by
  obtain ⟨a, ws, rfl, h2, h3⟩ := h
  exact ⟨a, ws, rfl, k _ _ h2, Paired.mapP h3 fun _ _ q => sc q⟩
theorem keepO {R : Rep α} {v : V} {x : Option α} (h : (rO R).r H v x) (k : ∀ y, R.r H v y → R.r H2 v y) : (rO R).r H2 v x := by
  cases x with
  | none => exact h
  | some y => exact k y h
theorem EC.s {κ : Type} [DecidableEq κ] {kf : κ → Key} {R : Rep α} {m : Option (List (κ × α))} (sc : R.Sc) (e : Ex G W) (h : EC ta σ W W (cM kf R) m) : EC ta σ G W (cM kf R) m := fun x hx H e1 e2 Q q =>
  h x hx H e2 e2 Q fun p H2 G2 np u w => by
    have up : Up G H G H2 := Up.same e1 u.hh
    refine q p H2 G np up ⟨up.gh, fun c hc => ?_, w.nd⟩
    obtain ⟨h1, o, h2, ws, rfl, h4⟩ := w.at_ c hc |> fun z => by
      rw [List.mem_singleton.mp hc] at z
      exact z
    rw [List.mem_singleton.mp hc]
    refine ⟨?_, _, h2, ws, rfl, Paired.mapP h4 fun _ _ q => ⟨q.1, sc q.2⟩⟩
    cases qz : G p with
    | none => rfl
    | some o => rw [e1 p o qz] at np; cases np
/-- the making of an object with a new list; some arguments are read at the heap itself -/
def PIAT (C : Addr) (R : Rep ι) (S : Rep β) (S2 : Rep δ) (B : Rep κ) (ns : List Str) (fl : Addr → α → List Pd) (f : ι → β → δ → Option α) : Sp := fun vs H Q _ => ∃ G x vo vt va i t al o, vs = [.ref x, vo, vt, va] ∧ Wd G H [(x, cI C [] [])] ∧ R.r G vo i ∧ S.r H vt t ∧ S2.r H va al ∧ f i t al = some o ∧
  ∀ H2 G2 p, H p = none → Fr G H G2 H2 [x] → Wd G2 H2 [(p, cL B []), (x, cI C ns (fl p o))] → Q .non H2
theorem c_makeT {fl : Addr → α → List Pd} {f : ι → β → δ → Option α} {vo vt va : V} {i : ι} {t : β} {al : δ} {z : α} {Q : VK} {vs dvs : List V} (w : Wo G0 H0 ls G H cs) (ho : R.r G vo i) (ht : S.r H vt t) (hl : S2.r H va al) (hv : vs ++ dvs = [vo, vt, va]) (hz : f i t al = some z)
    (k : ∀ v p H2 G2, H0 p = none → Wo G0 H0 ls G2 H2 ((p, cL B []) :: cs) → Ex G G2 → (rObj C ns (fl p)).r G2 v z → Q v H2) :
    ∀ x dx, H x = none → H dx = none → dx ≠ x → PIAT C R S S2 B ns fl f (.ref x :: (vs ++ dvs)) (upd (upd H dx (.own x)) x (.ins C dx [])) (fun v H2 => v = .non ∧ Q (.ref x) H2) X := by
  intro x dx nx ndx ne
  rw [hv]
  have w1 : Wd G (upd (upd H dx (.own x)) x (.ins C dx [])) [(x, cI C [] [])] := new_ins w.ex nx ndx ne
  have eH : Ex H (upd (upd H dx (.own x)) x (.ins C dx [])) := fun a o h => by rw [upd_ne (ne_of_none h nx), upd_ne (ne_of_none h ndx)]; exact h
  refine ⟨G, x, vo, vt, va, i, t, al, z, rfl, w1, ho, S.mono eH ht, S2.mono eH hl, hz, fun H2 G2 p np fr w2 => ⟨rfl, ?_⟩⟩
  have px : p ≠ x := fun z => by rw [z, upd_same] at np; cases np
  have npH : H p = none := by
    rw [upd_ne px] at np
    by_cases q : p = dx
    · rw [q]; exact ndx
    · rw [upd_ne q] at np; exact np
  obtain ⟨G3, k1, k2, k3, dx', fs, k4, k5⟩ := ob_freeze w2.tail
  have hh : Ex H H2 := fun a o h => by
    have na : a ≠ x := ne_of_none h nx
    have nd : a ≠ dx := ne_of_none h ndx
    exact fr.fr a o (by rw [upd_ne na, upd_ne nd]; exact h) fun z => na (List.mem_singleton.mp z)
  have u : Up G H G3 H2 := ⟨fr.gg.trans k1, k2, hh, fun a h1 h2 => by
    have na : a ≠ x := fun z => by subst z; exact h1 nx
    have nd : a ≠ dx := fun z => by subst z; exact h1 ndx
    exact k3 a na (fr.nw a (by rw [upd_ne na, upd_ne nd]; exact h1) h2)⟩
  obtain ⟨h1, o, h2, h3⟩ := w2.head
  have w3 : Wd G3 H2 [(p, cL B [])] := ⟨k2, fun c hc => by
    rw [List.mem_singleton.mp hc]
    exact ⟨k3 p px h1, o, h2, (cL B []).mono k1 h3⟩, List.nodup_cons.mpr ⟨List.not_mem_nil, List.nodup_nil⟩⟩
  have n0 : H0 p = none := by
    cases q : H0 p with
    | none => rfl
    | some o => exact absurd npH (w.f.st p (by rw [q]; simp))
  exact k (.ref x) p H2 G3 n0 (w.newC npH u w3) u.gg ⟨x, dx', fs, rfl, k4, k5⟩
/-- v = C(order, table): the default None -/
theorem x_makeT2 {a : Nat} {fl : Addr → α → List Pd} {f : ι → β → δ → Option α} {mo : Option ι} {mt : Option β} {i : ι} {t : β} {al : δ} {z : α} (w : Wo G0 H0 ls G H cs) (ho : E ta σ G H R mo) (hi : mo = some i) (ht : E tb σ H H S mt) (hmt : mt = some t) (hn : ∀ H', S2.r H' .non al) (hz : f i t al = some z)
    (k : ∀ v p H2 G2, H0 p = none → Wo G0 H0 ls G2 H2 ((p, cL B []) :: cs) → Ex G G2 → (rObj C ns (fl p)).r G2 v z → tz D (σ.set a (some v)) H2) : tSeq (tAsg (tMake C (PIAT C R S S2 B ns fl f) [.non] X (tCons ta (tCons tb tNil))) (gName a)) tz D σ H := by
  refine ho i hi H w.ex (Ex.refl _) _ fun v H1 G1 u1 r1 => ?_
  have w1 := w.up u1
  refine ht t hmt H1 u1.hh u1.hh _ fun v2 H3 G3 u3 r3 => ?_
  have w3 := w1.sc u3.hh
  exact c_makeT w3 r1 (S.mono u3.gh r3) (hn _) rfl hz fun v p H4 G4 n0 w4 e4 r4 => k v p H4 G4 n0 w4 (u1.gg.trans e4) r4
/-- v = C(order, table, allowed) -/
theorem x_makeT3 {a : Nat} {fl : Addr → α → List Pd} {f : ι → β → δ → Option α} {mo : Option ι} {mt : Option β} {ml : Option δ} {i : ι} {t : β} {al : δ} {z : α} (w : Wo G0 H0 ls G H cs) (ho : E ta σ G H R mo) (hi : mo = some i) (ht : E tb σ H H S mt) (hmt : mt = some t) (hl : E tc σ H H S2 ml) (hml : ml = some al) (hz : f i t al = some z)
    (k : ∀ v p H2 G2, H0 p = none → Wo G0 H0 ls G2 H2 ((p, cL B []) :: cs) → Ex G G2 → (rObj C ns (fl p)).r G2 v z → tz D (σ.set a (some v)) H2) : tSeq (tAsg (tMake C (PIAT C R S S2 B ns fl f) [] X (tCons ta (tCons tb (tCons tc tNil)))) (gName a)) tz D σ H := by
  refine ho i hi H w.ex (Ex.refl _) _ fun v H1 G1 u1 r1 => ?_
  have w1 := w.up u1
  refine ht t hmt H1 u1.hh u1.hh _ fun v2 H3 G3 u3 r3 => ?_
  have w3 := w1.sc u3.hh
  refine hl al hml H3 (u1.hh.trans u3.hh) (u1.hh.trans u3.hh) _ fun v4 H5 G5 u5 r5 => ?_
  have w5 := w3.sc u5.hh
  exact c_makeT w5 r1 (S.mono (u3.gh.trans u5.hh) r3) (S2.mono u5.gh r5) rfl hz fun v p H6 G6 n0 w6 e6 r6 => k v p H6 G6 n0 w6 (u1.gg.trans e6) r6
end
end Sim

/-! a comprehension whose test changes cells -/
namespace Sim
open PySem L2 Evl
section
variable {K : PySem.W.Frag} {σ : L2.St} {G0 H0 G H : Hp} {ls : List Addr} {cs : Cs} {tl te : TE} {tt : TT} {α γ : Type} {R : Rep α} {T : Rep γ} {D : Ends} {tz : TS}
theorem x_lcE {a j : Nat} {vs : List Nat} {xs : List α} {m : Option (List α)} (w : Wo G0 H0 ls G H cs) (h : E tl σ G H (rL R) m) (hm : m = some xs) (hw : ∀ x, wipe ((wipe σ vs).set j (some x)) vs = wipe σ vs) (P : Nat → Addr → Hp → Hp → Prop) (hP : ∀ i p G' H', P i p G' H' → Ex G' H')
    (h0 : ∀ p G' H', H0 p = none → Wo G0 H0 ls G' H' ((p, cL T []) :: cs) → Ex G G' → P 0 p G' H')
    (hs : ∀ p G1, Ex G G1 → ∀ i x v G' H', xs[i]? = some x → Ex G1 G' → P i p G' H' → R.r G' v x → tt ((wipe σ vs).set j (some v)) H' fun b H3 => if b = true then te ((wipe σ vs).set j (some v)) H3 fun y H4 => ∃ acc, H4 p = some (.lst acc) ∧ acc.length < sizeLine ∧ ∃ G4, Ex G1 G4 ∧ P (i + 1) p G4 (upd H4 p (.lst (acc ++ [y]))) else ∃ G3, Ex G1 G3 ∧ P (i + 1) p G3 H3)
    (hd : ∀ p G' H', H0 p = none → P xs.length p G' H' → tz D (σ.set a (some (.ref p))) H') : tSeq (tAsg (tLc (iList K tl) (gName j) tt te vs) (gName a)) tz D σ H := by
  refine h xs hm H w.ex (Ex.refl _) _ fun v H1 G1 u r => ?_
  have w1 := w.up u
  obtain ⟨b, us, rfl, h2, h3⟩ := r
  refine ⟨b, rfl, ⟨us, Or.inl (Or.inl (u.gh _ _ h2))⟩, fun p hp => ?_⟩
  have n0 : H0 p = none := by
    cases q : H0 p with
    | none => rfl
    | some o => exact absurd hp (w1.f.st p (by rw [q]; simp))
  have hp1 : G1 p = none := fresh_back u.gh hp
  have w2 : Wo G0 H0 ls G1 (upd H1 p (.lst [])) ((p, cL T []) :: cs) := w1.newC hp (Up.same w1.ex (Ex.new hp)) ⟨w1.ex.trans (Ex.new hp), fun c hc => by
    rw [List.mem_singleton.mp hc]
    exact ⟨hp1, _, upd_same, [], rfl, .nil⟩, List.nodup_cons.mpr ⟨List.not_mem_nil, List.nodup_nil⟩⟩
  refine lc_list (K := K) (a := b) (xs := us) (fun i H' => ∃ G', Ex G1 G' ∧ P i p G' H') ⟨G1, Ex.refl _, h0 p _ _ n0 w2 u.gg⟩ (fun i H' _ q => ?_) (fun i y H' hy q => ?_) fun H' q => ?_
  · obtain ⟨G', e, q⟩ := q
    exact Or.inl (Or.inl (hP _ _ _ _ q _ _ (e _ _ h2)))
  · obtain ⟨G', e, q⟩ := q
    obtain ⟨x, hx, r⟩ := pr_get' h3 hy
    exact ⟨hw y, hs p G1 u.gg i x y G' H' hx e q (R.mono e r)⟩
  · obtain ⟨G', e, q⟩ := q
    rw [h3.length] at q
    exact hd p G' H' n0 q
theorem c_lcput {p : Addr} {ys : List γ} {y : γ} {v : V} {Z : List V → Prop} (w : Wo G0 H0 ls G H ((p, cL T ys) :: cs)) (hs : sz ys.length = true) (r : T.r G v y)
    (k : ∀ acc, Wo G0 H0 ls G (upd H p (.lst (acc ++ [v]))) ((p, cL T (ys ++ [y])) :: cs) → Z acc) : ∃ acc, H p = some (.lst acc) ∧ acc.length < sizeLine ∧ Z acc := by
  obtain ⟨_, o, h2, us, rfl, h3⟩ := w.w.getAt (i := 0) rfl
  exact ⟨us, h2, by rw [h3.length]; exact sz_l hs, k us (w.writeAt (i := 0) rfl ⟨us ++ [v], rfl, pr_app h3 (.cons r .nil)⟩)⟩
end
end Sim
namespace Sim
open PySem L2 Evl
section
variable {K : PySem.W.Frag} {σ : L2.St} {G0 H0 G H : Hp} {ls : List Addr} {cs : Cs} {l : Addr} {α κ : Type} [DecidableEq κ] {kf : κ → Key} {R : Rep α} {Q : VK}
/-- d.clear() -/
theorem c_dclear {i j : Nat} {kvs : List (κ × α)} (w : Wo G0 H0 ls G H cs) (hc : cs[j]? = some (l, cM kf R kvs)) (hi : σ[i]? = some (some (.ref l))) (k : ∀ H2, Wo G0 H0 ls G H2 (cs.set j (l, cM kf R [])) → Q .non H2) : tBM0 K "dict" rDClear (tVar i) σ H Q := by
  obtain ⟨_, o3, k2, ws, rfl, k3⟩ := w.w.getAt hc
  exact ⟨.ref l, hi, Or.inr (Or.inr (Or.inl ⟨rfl, Or.inl ⟨_, k2⟩⟩)), l, ws, rfl, rfl, k2, k _ (w.writeAt hc ⟨_, rfl, .nil⟩)⟩
end
end Sim

set_option maxHeartbeats 4000000
namespace My
open PySem PySem.Spec PyProof.Rows L2 Sim
theorem be1 {α β : Type} {x : Option α} {f : α → Option β} : (x >>= f) = Option.bind x f := Eq.trans (show (x >>= f) = Option.bind x f from rfl) (Eq.refl _)
theorem bs1 {α β : Type} {a : α} {f : α → Option β} : Option.bind (some a) f = f a := Eq.trans (Option.bind_some a f) (Eq.refl _)
theorem bifT {α : Type} {a b c : α} (h : (bif true then a else b) = c) : a = c := h
theorem bifF {α : Type} {a b c : α} (h : (bif false then a else b) = c) : b = c := h
theorem elimL {α β γ : Type} {f : α → γ} {g : β → γ} {a : α} {c : γ} (h : Sum.elim f g (Sum.inl a) = c) : f a = c := h
theorem ba1 {α β γ : Type} {x : Option α} {f : α → Option β} {g : β → Option γ} : Option.bind (Option.bind x f) g = Option.bind x fun y => Option.bind (f y) g := Option.bind_assoc ..
def top (i : Nat) : Stmt := PySem.Challenge.pw_askedpoints_k13_table_askers.main.body.getD i (.Pass ⟨0, 0, 0, 0⟩)
abbrev s__wall : Stmt := top 0
abbrev s_Asker___init__ : Stmt := inClass (top 11) 0
abbrev s_Asker___call__ : Stmt := inClass (top 11) 1
abbrev s_Asker_look : Stmt := inClass (top 11) 2
abbrev s_TableAsker___init__ : Stmt := inClass (top 12) 0
abbrev s_TableAsker_look : Stmt := inClass (top 12) 1
abbrev s_closure : Stmt := top 14
abbrev s_turned : Stmt := top 15
abbrev s_least_above : Stmt := top 16
abbrev s_bounds_table : Stmt := top 17
abbrev s_first_ring : Stmt := top 18
abbrev s_first_lack : Stmt := top 19
abbrev s_longest : Stmt := top 20
abbrev s_neighbours : Stmt := top 21
abbrev s_Order___init__ : Stmt := inClass (top 23) 1
abbrev s_Order_chain : Stmt := inClass (top 23) 2
abbrev s_Order_flat : Stmt := inClass (top 23) 3
abbrev s_Order_marks : Stmt := inClass (top 23) 4
abbrev s_Order__require : Stmt := inClass (top 23) 5
abbrev s_Order_below : Stmt := inClass (top 23) 6
abbrev s_Order_join_of : Stmt := inClass (top 23) 7
abbrev s_Order_meet_of : Stmt := inClass (top 23) 8
abbrev s_Order_join_all : Stmt := inClass (top 23) 9
abbrev s_Order_meet_all : Stmt := inClass (top 23) 10
abbrev s_Order_covers : Stmt := inClass (top 23) 11
abbrev s_Order_least : Stmt := inClass (top 23) 12
abbrev s_Order_greatest : Stmt := inClass (top 23) 13
abbrev s_Order_height : Stmt := inClass (top 23) 14
abbrev s_Order___len__ : Stmt := inClass (top 23) 15
abbrev s_Order___contains__ : Stmt := inClass (top 23) 16
abbrev s_Order___iter__ : Stmt := inClass (top 23) 17
abbrev s_Order___eq__ : Stmt := inClass (top 23) 18
abbrev s_Order___mul__ : Stmt := inClass (top 23) 19
abbrev s_Order___add__ : Stmt := inClass (top 23) 20
abbrev s_Order___invert__ : Stmt := inClass (top 23) 21
abbrev s__law_pot : Stmt := top 25
abbrev s__law_draw : Stmt := top 26
abbrev s__law_int : Stmt := top 27
abbrev s__law_masks : Stmt := top 28
abbrev s__law_under : Stmt := top 29
abbrev s__law_pairs : Stmt := top 30
abbrev s__law_names : Stmt := top 31
abbrev s__law_spoilt_table : Stmt := top 32
abbrev s__law_looked : Stmt := top 33
abbrev s__law_table_answer : Stmt := top 34
abbrev s__law_found : Stmt := top 35
abbrev s__law_listed : Stmt := top 36
abbrev s_law : Stmt := top 37
def d_Asker___init__ : He.DefD := ⟨("Asker", some "__init__"), "__init__", "Asker.__init__", defArgs s_Asker___init__, defBody s_Asker___init__, defScope s_Asker___init__, [], []⟩
def d_Asker___call__ : He.DefD := ⟨("Asker", some "__call__"), "__call__", "Asker.__call__", defArgs s_Asker___call__, defBody s_Asker___call__, defScope s_Asker___call__, [], []⟩
def d_TableAsker_look : He.DefD := ⟨("TableAsker", some "look"), "look", "TableAsker.look", defArgs s_TableAsker_look, defBody s_TableAsker_look, defScope s_TableAsker_look, [], []⟩
def d_closure : He.DefD := ⟨("closure", none), "closure", "closure", defArgs s_closure, defBody s_closure, defScope s_closure, [], []⟩
def d_turned : He.DefD := ⟨("turned", none), "turned", "turned", defArgs s_turned, defBody s_turned, defScope s_turned, [], []⟩
def d_least_above : He.DefD := ⟨("least_above", none), "least_above", "least_above", defArgs s_least_above, defBody s_least_above, defScope s_least_above, [], []⟩
def d_bounds_table : He.DefD := ⟨("bounds_table", none), "bounds_table", "bounds_table", defArgs s_bounds_table, defBody s_bounds_table, defScope s_bounds_table, [], []⟩
def d_first_ring : He.DefD := ⟨("first_ring", none), "first_ring", "first_ring", defArgs s_first_ring, defBody s_first_ring, defScope s_first_ring, [], []⟩
def d_first_lack : He.DefD := ⟨("first_lack", none), "first_lack", "first_lack", defArgs s_first_lack, defBody s_first_lack, defScope s_first_lack, [], []⟩
def d_longest : He.DefD := ⟨("longest", none), "longest", "longest", defArgs s_longest, defBody s_longest, defScope s_longest, [], []⟩
def d_neighbours : He.DefD := ⟨("neighbours", none), "neighbours", "neighbours", defArgs s_neighbours, defBody s_neighbours, defScope s_neighbours, [], []⟩
def d_Order___init__ : He.DefD := ⟨("Order", some "__init__"), "__init__", "Order.__init__", defArgs s_Order___init__, defBody s_Order___init__, defScope s_Order___init__, [], []⟩
def d_Order__require : He.DefD := ⟨("Order", some "_require"), "_require", "Order._require", defArgs s_Order__require, defBody s_Order__require, defScope s_Order__require, [], []⟩
def d_Order___contains__ : He.DefD := ⟨("Order", some "__contains__"), "__contains__", "Order.__contains__", defArgs s_Order___contains__, defBody s_Order___contains__, defScope s_Order___contains__, [], []⟩
def d_Order___eq__ : He.DefD := ⟨("Order", some "__eq__"), "__eq__", "Order.__eq__", defArgs s_Order___eq__, defBody s_Order___eq__, defScope s_Order___eq__, [], []⟩
def d__law_pot : He.DefD := ⟨("_law_pot", none), "_law_pot", "_law_pot", defArgs s__law_pot, defBody s__law_pot, defScope s__law_pot, [], []⟩
def d__law_draw : He.DefD := ⟨("_law_draw", none), "_law_draw", "_law_draw", defArgs s__law_draw, defBody s__law_draw, defScope s__law_draw, [], []⟩
def d__law_int : He.DefD := ⟨("_law_int", none), "_law_int", "_law_int", defArgs s__law_int, defBody s__law_int, defScope s__law_int, [], []⟩
def d__law_masks : He.DefD := ⟨("_law_masks", none), "_law_masks", "_law_masks", defArgs s__law_masks, defBody s__law_masks, defScope s__law_masks, [], []⟩
def d__law_under : He.DefD := ⟨("_law_under", none), "_law_under", "_law_under", defArgs s__law_under, defBody s__law_under, defScope s__law_under, [], []⟩
def d__law_pairs : He.DefD := ⟨("_law_pairs", none), "_law_pairs", "_law_pairs", defArgs s__law_pairs, defBody s__law_pairs, defScope s__law_pairs, [], []⟩
def d__law_names : He.DefD := ⟨("_law_names", none), "_law_names", "_law_names", defArgs s__law_names, defBody s__law_names, defScope s__law_names, [], []⟩
def d__law_spoilt_table : He.DefD := ⟨("_law_spoilt_table", none), "_law_spoilt_table", "_law_spoilt_table", defArgs s__law_spoilt_table, defBody s__law_spoilt_table, defScope s__law_spoilt_table, [], []⟩
def d__law_looked : He.DefD := ⟨("_law_looked", none), "_law_looked", "_law_looked", defArgs s__law_looked, defBody s__law_looked, defScope s__law_looked, [], []⟩
def d__law_table_answer : He.DefD := ⟨("_law_table_answer", none), "_law_table_answer", "_law_table_answer", defArgs s__law_table_answer, defBody s__law_table_answer, defScope s__law_table_answer, [], []⟩
def d__law_found : He.DefD := ⟨("_law_found", none), "_law_found", "_law_found", defArgs s__law_found, defBody s__law_found, defScope s__law_found, [], []⟩
def d__law_listed : He.DefD := ⟨("_law_listed", none), "_law_listed", "_law_listed", defArgs s__law_listed, defBody s__law_listed, defScope s__law_listed, [], []⟩
def d_law : He.DefD := ⟨("law", none), "law", "law", defArgs s_law, defBody s_law, defScope s_law, [], []⟩
def fn : List He.DefD := [d_Asker___init__, d_Asker___call__, d_TableAsker_look, d_closure, d_turned, d_least_above, d_bounds_table, d_first_ring, d_first_lack, d_longest, d_neighbours, d_Order___init__, d_Order__require, d_Order___contains__, d_Order___eq__, d__law_pot, d__law_draw, d__law_int, d__law_masks, d__law_under, d__law_pairs, d__law_names, d__law_spoilt_table, d__law_looked, d__law_table_answer, d__law_found, d__law_listed, d_law]
def fa : List He.Fa := [.glo "_wall", .glo "AskedError", .glo "BadSize", .glo "NotElement", .glo "Ring", .glo "NoJoin", .glo "NoMeet", .glo "Unanswered", .glo "NoSide", .glo "Asker", .glo "TableAsker", .glo "closure", .glo "turned", .glo "least_above", .glo "bounds_table", .glo "first_ring", .glo "first_lack", .glo "longest", .glo "neighbours", .glo "Order", .glo "_law_pot", .glo "_law_draw", .glo "_law_int", .glo "_law_masks", .glo "_law_under", .glo "_law_pairs", .glo "_law_names", .glo "_law_spoilt_table", .glo "_law_looked", .glo "_law_table_answer", .glo "_law_found", .glo "_law_listed", .glo "law", .free "super", .free "range", .free "len", .free "max", .free "list", .free "min", .free "abs", .free "int", .free "sorted", .free "isinstance", .free "bool", .free "tuple", .free "all", .free "dict", .cls "Order", .noat "Order" "_above", .noat "Order" "_joins", .noat "Order" "_meets", .noat "Order" "_members", .noat "Order" "_height", .cls "TableAsker", .noat "TableAsker" "order", .noat "TableAsker" "asks", .noat "TableAsker" "table", .noat "TableAsker" "allowed", .meth "Order" "__contains__", .meth "TableAsker" "look", .meth "TableAsker" "__call__", .mkr "Order", .mkr "TableAsker", .meth "Order" "__eq__"]
def ex : List (PySem.W.Frag → Bool) := [fun K => He.conB K "Order" "MOST" (.int 12), kiOB "Order" "Order" true, tyiB "Order", eqmB "TableAsker" "Asker" "__call__", fnmB "Asker" "__call__", xaB ["NoSide"] "NoSide" true, xsB ["NoSide"], xnB ["NoSide"] ["name"], xaB ["NotElement"] "NotElement" true, xsB ["NotElement"], xnB ["NotElement"] ["value"], xaB ["NotElement"] "NoSide" false, noB "NoSide" "name", noB "NotElement" "value"]
def P : Program := (PySem.Challenge.rw_askedpoints_k13_table_askers).prog
abbrev s_NotElement___init__ : Stmt := inClass (top 4) 0
abbrev s_NoSide___init__ : Stmt := inClass (top 9) 0
def x_NoSide : XcD := ⟨"NoSide", "NoSide.__init__", defArgs s_NoSide___init__, defBody s_NoSide___init__, defScope s_NoSide___init__⟩
def x_NotElement : XcD := ⟨"NotElement", "NotElement.__init__", defArgs s_NotElement___init__, defBody s_NotElement___init__, defScope s_NotElement___init__⟩
def xs : List XcD := [x_NoSide, x_NotElement]
def g_Order_least : GeD := ⟨"property", "Order", "least", "Order.least", defArgs s_Order_least, defBody s_Order_least, defScope s_Order_least⟩
def gs : List GeD := [g_Order_least]
def sp_TableAsker : SpD := ⟨"TableAsker", "TableAsker", "Asker", "TableAsker.__init__", defArgs s_TableAsker___init__, defBody s_TableAsker___init__, defScope s_TableAsker___init__, [.non]⟩
def sp : List SpD := [sp_TableAsker]
abbrev Tx (K : PySem.W.Frag) (mg : Str → Option Value) : Prop := TxZ fa fn ex xs gs sp P.main.file K mg
structure m_Order where
  f_above : (List (List Bool))
  f_joins : (List (List (Option Int)))
  f_meets : (List (List (Option Int)))
  f_members : (List Int)
  f_height : Int
deriving DecidableEq
abbrev ns_Order : List Str := ["_above", "_joins", "_meets", "_members", "_height"]
def fl_Order (K : PySem.W.Frag) (o : m_Order) : List Pd := [pd (rL (rL rB)) o.f_above, pd (rL (rL (rO rI))) o.f_joins, pd (rL (rL (rO rI))) o.f_meets, pd (rL rI) o.f_members, pd rI o.f_height]
abbrev r_Order (K : PySem.W.Frag) : Rep m_Order := rObj (He.ga K "Order") ns_Order (fl_Order K)
abbrev m_Asker : Type := m_Order
abbrev ns_Asker : List Str := ["order", "asks"]
def fl_Asker (K : PySem.W.Frag) (l : Addr) (o : m_Asker) : List Pd := [pd (r_Order K) o, pd rA l]
abbrev r_Asker (K : PySem.W.Frag) (l : Addr) : Rep m_Asker := rObj (He.ga K "Asker") ns_Asker (fl_Asker K l)
abbrev rS_Asker (K : PySem.W.Frag) : Rep (Addr × m_Asker) := rObj (He.ga K "Asker") ns_Asker (fun p => fl_Asker K p.1 p.2)
abbrev m_TableAsker : Type := m_Order × (List (Str × Int) × Option (List Str))
abbrev ns_TableAsker : List Str := ["order", "asks", "table", "allowed"]
def fl_TableAsker (K : PySem.W.Frag) (l : Addr) (o : m_TableAsker) : List Pd := [pd (r_Order K) o.1, pd rA l, pd (rM Sum.inr rI) o.2.1, pd (rO (rL rS)) o.2.2]
abbrev r_TableAsker (K : PySem.W.Frag) (l : Addr) : Rep m_TableAsker := rObj (He.ga K "TableAsker") ns_TableAsker (fl_TableAsker K l)
abbrev rS_TableAsker (K : PySem.W.Frag) : Rep (Addr × m_TableAsker) := rObj (He.ga K "TableAsker") ns_TableAsker (fun p => fl_TableAsker K p.1 p.2)
section
variable {w : World} {K : PySem.W.Frag} {mg : Str → Option Value} {base : Heap}
theorem fr_super (T : Tx K mg) : mg "super" = none := T.free 33 rfl
theorem fr_range (T : Tx K mg) : mg "range" = none := T.free 34 rfl
theorem fr_len (T : Tx K mg) : mg "len" = none := T.free 35 rfl
theorem fr_max (T : Tx K mg) : mg "max" = none := T.free 36 rfl
theorem fr_list (T : Tx K mg) : mg "list" = none := T.free 37 rfl
theorem fr_min (T : Tx K mg) : mg "min" = none := T.free 38 rfl
theorem fr_abs (T : Tx K mg) : mg "abs" = none := T.free 39 rfl
theorem fr_int (T : Tx K mg) : mg "int" = none := T.free 40 rfl
theorem fr_sorted (T : Tx K mg) : mg "sorted" = none := T.free 41 rfl
theorem fr_isinstance (T : Tx K mg) : mg "isinstance" = none := T.free 42 rfl
theorem fr_bool (T : Tx K mg) : mg "bool" = none := T.free 43 rfl
theorem fr_tuple (T : Tx K mg) : mg "tuple" = none := T.free 44 rfl
theorem fr_all (T : Tx K mg) : mg "all" = none := T.free 45 rfl
theorem fr_dict (T : Tx K mg) : mg "dict" = none := T.free 46 rfl
theorem ns_NoSide : NdefX.NScope ["self", "name", "__class__"] ["self", "name"] ["__class__"] (defScope s_NoSide___init__) := NdefX.nscope_by (by decide +kernel)
theorem known_NoSide (T : Tx K mg) : XcK P K mg x_NoSide := XcD.known (T.xc 0 rfl).1 (T.xc 0 rfl).2 (fr_super T) (by decide +kernel) (by decide +kernel) (by decide +kernel) rfl (by decide +kernel)
theorem okx_NoSide (T : Tx K mg) : ∃ fd, Binds K fd ["self", "name"] [] ∧ FnOk P w K mg base CX0 1 (xcAd K "NoSide") fd ["self", "name"] (spX (He.ga K "NoSide") ["name"]) := by
  obtain ⟨fd, cc, c, Z⟩ := (known_NoSide T).ex
  refine ⟨fd, ?_, ?_⟩
  · obtain ⟨oc, od, osl, kV, doc, pm, an, ct, rfl, lk⟩ := Z.lk
    exact .all fun us hl => match us, hl with | [_, _], _ => rfl
  · refine xinit (F := ⟨"__init__", x_NoSide.qual, x_NoSide.params, x_NoSide.body, x_NoSide.scope, [("__class__", cc)], c⟩) (fi := [("name", 1)]) ns_NoSide Z rfl (fun _ => rfl) (fun _ => rfl) (fun f hf => ?_) rfl (fun a ws h => ?_) (fun A outer s H E => ?_)
    · simp only [List.mem_cons, List.not_mem_nil, or_false] at hf
      rcases hf with rfl
      · exact noB_ok (T.mo 12 rfl)
    · match ws, h with
      | [y1], _ => exact ⟨("name", 1, y1), [], by simp, rfl, rfl, by simp [NdefX.startF]⟩
    · exact pss_cons (ps_ost (pe_var (i := 0) rfl (Or.inl rfl)) (pe_var (i := 1) rfl (Or.inl rfl))) (pss_nil)
theorem ns_NotElement : NdefX.NScope ["self", "value", "__class__"] ["self", "value"] ["__class__"] (defScope s_NotElement___init__) := NdefX.nscope_by (by decide +kernel)
theorem known_NotElement (T : Tx K mg) : XcK P K mg x_NotElement := XcD.known (T.xc 1 rfl).1 (T.xc 1 rfl).2 (fr_super T) (by decide +kernel) (by decide +kernel) (by decide +kernel) rfl (by decide +kernel)
theorem okx_NotElement (T : Tx K mg) : ∃ fd, Binds K fd ["self", "value"] [] ∧ FnOk P w K mg base CX0 1 (xcAd K "NotElement") fd ["self", "value"] (spX (He.ga K "NotElement") ["value"]) := by
  obtain ⟨fd, cc, c, Z⟩ := (known_NotElement T).ex
  refine ⟨fd, ?_, ?_⟩
  · obtain ⟨oc, od, osl, kV, doc, pm, an, ct, rfl, lk⟩ := Z.lk
    exact .all fun us hl => match us, hl with | [_, _], _ => rfl
  · refine xinit (F := ⟨"__init__", x_NotElement.qual, x_NotElement.params, x_NotElement.body, x_NotElement.scope, [("__class__", cc)], c⟩) (fi := [("value", 1)]) ns_NotElement Z rfl (fun _ => rfl) (fun _ => rfl) (fun f hf => ?_) rfl (fun a ws h => ?_) (fun A outer s H E => ?_)
    · simp only [List.mem_cons, List.not_mem_nil, or_false] at hf
      rcases hf with rfl
      · exact noB_ok (T.mo 13 rfl)
    · match ws, h with
      | [y1], _ => exact ⟨("value", 1, y1), [], by simp, rfl, rfl, by simp [NdefX.startF]⟩
    · exact pss_cons (ps_ost (pe_var (i := 0) rfl (Or.inl rfl)) (pe_var (i := 1) rfl (Or.inl rfl))) (pss_nil)
def m_closure_b1 (size0 : Int) (x34 : (Int × Int)) (s23 : (List Bool)) : Option (List Bool) :=
  (some true >>= fun a47 => (mulM x34.1 size0 >>= fun t46 => some (t46 + x34.2)) >>= fun i48 => setM s23 i48 a47 >>= fun cells_49 => some (cells_49))
def m_closure_b2 (size0 : Int) (x117 : Int) (s103 : (List (List Bool))) : Option (List (List Bool)) :=
  ((rngM 0 size0 >>= fun xs138 => mapS (fun x124 => (rngM 0 size0 >>= fun xs137 => mapS (fun x130 => (orO ((atI s103 x124 >>= fun t133 => atI t133 x130)) ((andO ((atI s103 x124 >>= fun t135 => atI t135 x117)) ((atI s103 x117 >>= fun t136 => atI t136 x130)))))) xs137)) xs138) >>= fun rows_139 => some (rows_139))
def m_closure (size0 : Int) (pairs0 : (List (Int × Int))) : Option (List (List Bool)) :=
  ((mulM size0 size0 >>= fun t8 => (rngM 0 t8 >>= fun xs7 => mapS (fun x4 => some false) xs7)) >>= fun cells_9 => (some pairs0 >>= fun xs18 => forS (m_closure_b1 size0) xs18 cells_9 >>= fun s23 => ((rngM 0 size0 >>= fun xs85 => mapS (fun x73 => (rngM 0 size0 >>= fun xs84 => mapS (fun x79 => (orO (some (x73 == x79)) (((mulM x73 size0 >>= fun t82 => some (t82 + x79)) >>= fun t83 => atI s23 t83)))) xs84)) xs85) >>= fun rows_86 => (some size0 >>= fun n96 => rngM 0 n96 >>= fun xs98 => forS (m_closure_b2 size0) xs98 rows_86 >>= fun s103 => (some s103 >>= fun a157 => some a157)))))
theorem sc_closure : FnScope ["size", "pairs", "cells", "rows", "m", "low", "high", "_", "a", "b"] ["size", "pairs"] (defScope s_closure) := ⟨rfl, rfl, rfl, by decide +kernel, rfl, by decide +kernel, by decide +kernel⟩
theorem ok_closure (T : Tx K mg) : Fk P w K mg base CX0 1 "closure" ["size", "pairs"] (PF (aC rI (aC (rL (rP rI rI)) aN)) (rL (rL rB)) (fun i => m_closure i.1 i.2.1)) := by
  obtain ⟨fd, F⟩ := T.def_ 3 rfl
  have nd := sc_closure.nd
  refine fk_mk T.toTx (x := "closure") (T.glo 11 rfl) F (fun _ _ _ _ _ _ us hl => match us, hl with | [_, _], _ => rfl) (F.ok sc_closure (fun vs H Q E h => ?_) (fun cdv A outer s H vs Q E hr h => ?_))
  · obtain ⟨G, ⟨size0, pairs0, ⟨⟩⟩, r, e0, ⟨vsize0, _, rfl, hsize0, vpairs0, _, rfl, hpairs0, rfl⟩, h, k⟩ := h
    rfl
  · obtain ⟨G, ⟨size0, pairs0, ⟨⟩⟩, r, e0, ⟨vsize0, _, rfl, hsize0, vpairs0, _, rfl, hpairs0, rfl⟩, h, k⟩ := h
    cases hsize0
    have w0 := Wo.start e0
    have h : m_closure size0 pairs0 = some r := h
    unfold m_closure at h
    refine ⟨_, PSs.nox (pss_cons (ps_set (i := 2) nd rfl (Or.inr rfl) (pe_lc (own := [("_", 7)]) (by rfl) nd (pi_range1 (by rfl) (fr_range T) (pa_cons (pe_op op_mul (pv 0) (pv 0)) pa_nil)) (blkOk_by (by kernel_rfl)) (fun _ _ _ _ _ => pg_name (i := 7) nd rfl (by first | exact Or.inl rfl | exact Or.inr rfl)) (fun _ _ _ _ _ => pts_nil) (fun _ _ _ _ _ => pe_bl))) (pss_cons (ps_for PassesOwn.never rfl (pi_list (pv 1)) (pg_tup (by rfl) (pgs_cons (pg_name (i := 5) nd rfl (by first | exact Or.inl rfl | exact Or.inr rfl)) (pgs_cons (pg_name (i := 6) nd rfl (by first | exact Or.inl rfl | exact Or.inr rfl)) pgs_nil))) (pss_cons (ps_asg pe_bl (pg_sub (pv 2) (pe_op op_add (pe_op op_mul (pv 5) (pv 0)) (pv 6)) set_list)) pss_nil)) (pss_cons (ps_set (i := 3) nd rfl (Or.inr rfl) (pe_lc (own := [("a", 8)]) (by rfl) nd (pi_range1 (by rfl) (fr_range T) (pa_cons (pv 0) pa_nil)) (blkOk_by (by kernel_rfl)) (fun _ _ _ _ _ => pg_name (i := 8) nd rfl (by first | exact Or.inl rfl | exact Or.inr rfl)) (fun _ _ _ _ _ => pts_nil) (fun _ _ _ _ _ => (pe_lc (own := [("b", 9)]) (by rfl) nd (pi_range1 (by rfl) (fr_range T) (pa_cons (pv 0) pa_nil)) (blkOk_by (by kernel_rfl)) (fun _ _ _ _ _ => pg_name (i := 9) nd rfl (by first | exact Or.inl rfl | exact Or.inr rfl)) (fun _ _ _ _ _ => pts_nil) (fun _ _ _ _ _ => (pe_or (pe_cmpR op_eq (pv 8) (pv 9) (nomark _)) (pe_one (pe_ix (r := rIxL K) ix_list (pv 2) (pe_op op_add (pe_op op_mul (pv 8) (pv 0)) (pv 9)) (fun _ _ => rfl))))))))) (pss_cons (ps_for PassesOwn.never rfl (pi_range1 (by rfl) (fr_range T) (pa_cons (pv 0) pa_nil)) (pg_name (i := 4) nd rfl (Or.inr rfl)) (pss_cons (ps_set (i := 3) nd rfl (Or.inr rfl) (pe_lc (own := [("a", 8)]) (by rfl) nd (pi_range1 (by rfl) (fr_range T) (pa_cons (pv 0) pa_nil)) (blkOk_by (by kernel_rfl)) (fun _ _ _ _ _ => pg_name (i := 8) nd rfl (by first | exact Or.inl rfl | exact Or.inr rfl)) (fun _ _ _ _ _ => pts_nil) (fun _ _ _ _ _ => (pe_lc (own := [("b", 9)]) (by rfl) nd (pi_range1 (by rfl) (fr_range T) (pa_cons (pv 0) pa_nil)) (blkOk_by (by kernel_rfl)) (fun _ _ _ _ _ => pg_name (i := 9) nd rfl (by first | exact Or.inl rfl | exact Or.inr rfl)) (fun _ _ _ _ _ => pts_nil) (fun _ _ _ _ _ => (pe_or (pe_ix (r := rIxL K) ix_list (pe_ix (r := rIxL K) ix_list (pv 3) (pv 8) (fun _ _ => rfl)) (pv 9) (fun _ _ => rfl)) (pe_one (pe_and (pe_ix (r := rIxL K) ix_list (pe_ix (r := rIxL K) ix_list (pv 3) (pv 8) (fun _ _ => rfl)) (pv 4) (fun _ _ => rfl)) (pe_one (pe_ix (r := rIxL K) ix_list (pe_ix (r := rIxL K) ix_list (pv 3) (pv 4) (fun _ _ => rfl)) (pv 9) (fun _ _ => rfl))))))))))) pss_nil)) (pss_cons (ps_ret (pv 3)) pss_nil))))), ?_⟩
    obtain ⟨cells_9, hx10, h⟩ := bindS h
    refine x_setL w0 (el_mapR (el_lcR (j := 7) (ea_cons (e_op rr_mul (e_var (R := rI) (x := size0) rfl rfl) (e_var (R := rI) (x := size0) rfl rfl)) ea_nil) (fun _ => rfl) (fun _ _ _ _ _ _ => et_yes) (fun x4 G5 W6 eG1 eW2 eX3 => e_bl))) (by first | (simp only [be1, bs1, ba1] at hx10 ⊢; exact hx10) | exact hx10) ?_
    intro p13 H11 G14 n15 w12 e16
    have h17 := Rep.mono _ e16 hpairs0
    obtain ⟨xs18, hx19, h⟩ := bindS h
    obtain ⟨t21, hx22, h⟩ := bindS h
    refine x_forL w12 (e_var (R := (rL (rP rI rI))) (x := pairs0) rfl h17) hx19 (fun i G' H' σ' => ∃ s23 : (List Bool), ∃ u24 : Option V, ∃ u25 : Option V, Wo G H [] G' H' [(p13, cL rB s23)] ∧ Evl.Ex G14 G' ∧ σ' = [some (V.int size0), some vpairs0, some (V.ref p13), none, none, u25, u24, none, none, none] ∧ forS (m_closure_b1 size0) (xs18.drop i) s23 = some t21) (fun _ _ _ _ ⟨_, _, _, w, _⟩ => w.ex) ?_ ?_ ?_
    · intro G' H' w' e'
      exact ⟨cells_9, (none), (none), w', e', rfl, hx22⟩
    · rintro G36 e37 i33 x34 v38 σ' G29 H32 hx35 e40 ⟨s23, u24, u25, w30, e31, rfl, hm27⟩ r39
      obtain ⟨q28, hb26, hm27⟩ := forS_at hx35 hm27
      have h41 := Rep.mono _ e31 h17
      refine g_pair (i := 5) (j := 6) r39 w30.ex ?_
      intro v42 v43 r44 r45
      cases r44
      cases r45
      unfold m_closure_b1 at hb26
      obtain ⟨a47, hx50, hb26⟩ := bindS hb26
      obtain ⟨i48, hx51, hb26⟩ := bindS hb26
      obtain ⟨cells_49, hx52, hb26⟩ := bindS hb26
      refine x_setIx (j := 0) w30 rfl rfl e_bl (by first | (simp only [be1, bs1, ba1] at hx50 ⊢; exact hx50) | exact hx50) (e_op rr_add (e_op rr_mul (e_var (R := rI) (x := x34.1) rfl rfl) (e_var (R := rI) (x := size0) rfl rfl)) (e_var (R := rI) (x := x34.2) rfl rfl)) (by first | (simp only [be1, bs1, ba1] at hx51 ⊢; exact hx51) | exact hx51) hx52 ?_
      intro H53 G54 w55 e56
      have h57 := Rep.mono _ e56 h41
      have w55 : Wo G H [] G54 H53 [(p13, cL rB cells_49)] := w55
      refine x_next ?_
      have hb26 : cells_49 = q28 := Option.some.inj hb26
      subst hb26
      exact ⟨G54, (e40.trans e56), cells_49, (some (V.int x34.2)), (some (V.int x34.1)), w55, (e31.trans e56), rfl, hm27⟩
    · rintro σ' G58 H61 e62 ⟨s23, u24, u25, w59, e60, rfl, hm27⟩
      have hm27 := forS_end hm27
      subst hm27
      have h64 := Rep.mono _ e60 h17
      obtain ⟨G65, w66, e67, h68⟩ := w59.freezeAt (i := 0) rfl n15
      have h69 := Rep.mono _ e67 h64
      have w66 : Wo G H [] G65 H61 [] := w66
      obtain ⟨rows_86, hx87, h⟩ := bindS h
      refine x_set w66 (EL.e (el_mapR (el_lcR (j := 8) (ea_cons (e_var (R := rI) (x := size0) rfl rfl) ea_nil) (fun _ => rfl) (fun _ _ _ _ _ _ => et_yes) (fun x73 G74 W75 eG70 eW71 eX72 => (EL.e (el_mapR (el_lcR (j := 9) (ea_cons (e_var (R := rI) (x := size0) rfl rfl) ea_nil) (fun _ => rfl) (fun _ _ _ _ _ _ => et_yes) (fun x79 G80 W81 eG76 eW77 eX78 => (e_orV (e_op rr_eqI (e_var (R := rI) (x := x73) rfl rfl) (e_var (R := rI) (x := x79) rfl rfl)) (e_op rr_ixL (e_var (R := (rL rB)) (x := s23) rfl (Rep.mono _ eG76 (Rep.mono _ eG70 h68))) (e_op rr_add (e_op rr_mul (e_var (R := rI) (x := x73) rfl rfl) (e_var (R := rI) (x := size0) rfl rfl)) (e_var (R := rI) (x := x79) rfl rfl)))))))))))) (by first | (simp only [be1, bs1, ba1] at hx87 ⊢; exact hx87) | exact hx87) ?_
      intro v90 H88 G91 w89 e92 h93
      have h94 := Rep.mono _ e92 h69
      have h95 := Rep.mono _ e92 h68
      obtain ⟨n96, hx97, h⟩ := bindS h
      obtain ⟨xs98, hx99, h⟩ := bindS h
      obtain ⟨t101, hx102, h⟩ := bindS h
      refine x_forR w89 (ea_cons (Sim.E.is (e_var (R := rI) (x := size0) rfl rfl) hx97) ea_nil) rfl hx99 (fun i G' H' σ' => ∃ s103 : (List (List Bool)), ∃ v104 : V, ∃ u106 : Option V, ∃ u107 : Option V, ∃ u108 : Option V, Wo G H [] G' H' [] ∧ Evl.Ex G91 G' ∧ σ' = [some (V.int size0), some vpairs0, some (V.ref p13), some v104, u108, u25, u24, none, u106, u107] ∧ (rL (rL rB)).r G' v104 s103 ∧ forS (m_closure_b2 size0) (xs98.drop i) s103 = some t101) ?_ ?_ ?_
      · intro G' H' w' e'
        exact ⟨rows_86, v90, (none), (none), (none), w', e', rfl, (Rep.mono _ e' h93), hx102⟩
      · rintro i116 x117 σ' G112 H115 hx118 ⟨s103, v104, u106, u107, u108, w113, e114, rfl, h105, hm110⟩
        obtain ⟨q111, hb109, hm110⟩ := forS_at hx118 hm110
        have h119 := Rep.mono _ e114 h94
        have h120 := Rep.mono _ e114 h95
        refine g_name ?_
        unfold m_closure_b2 at hb109
        obtain ⟨rows_139, hx140, hb109⟩ := bindS hb109
        refine x_set w113 (EL.e (el_mapR (el_lcR (j := 8) (ea_cons (e_var (R := rI) (x := size0) rfl rfl) ea_nil) (fun _ => rfl) (fun _ _ _ _ _ _ => et_yes) (fun x124 G125 W126 eG121 eW122 eX123 => (EL.e (el_mapR (el_lcR (j := 9) (ea_cons (e_var (R := rI) (x := size0) rfl rfl) ea_nil) (fun _ => rfl) (fun _ _ _ _ _ _ => et_yes) (fun x130 G131 W132 eG127 eW128 eX129 => (e_orV (e_op rr_ixL (e_op rr_ixL (e_var (R := (rL (rL rB))) (x := s103) rfl (Rep.mono _ eG127 (Rep.mono _ eG121 h105))) (e_var (R := rI) (x := x124) rfl rfl)) (e_var (R := rI) (x := x130) rfl rfl)) (e_andV (e_op rr_ixL (e_op rr_ixL (e_var (R := (rL (rL rB))) (x := s103) rfl (Rep.mono _ eG127 (Rep.mono _ eG121 h105))) (e_var (R := rI) (x := x124) rfl rfl)) (e_var (R := rI) (x := x117) rfl rfl)) (e_op rr_ixL (e_op rr_ixL (e_var (R := (rL (rL rB))) (x := s103) rfl (Rep.mono _ eG127 (Rep.mono _ eG121 h105))) (e_var (R := rI) (x := x117) rfl rfl)) (e_var (R := rI) (x := x130) rfl rfl)))))))))))) (by first | (simp only [be1, bs1, ba1] at hx140 ⊢; exact hx140) | exact hx140) ?_
        intro v143 H141 G144 w142 e145 h146
        have h147 := Rep.mono _ e145 h119
        have h148 := Rep.mono _ e145 h120
        have h149 := Rep.mono _ e145 h105
        refine x_next ?_
        have hb109 : rows_139 = q111 := Option.some.inj hb109
        subst hb109
        exact ⟨G144, rows_139, v143, (u106), (u107), (some (V.int x117)), w142, (e114.trans e145), rfl, h146, hm110⟩
      · rintro σ' G150 H153 ⟨s103, v104, u106, u107, u108, w151, e152, rfl, h105, hm110⟩
        have hm110 := forS_end hm110
        subst hm110
        have h155 := Rep.mono _ e152 h94
        have h156 := Rep.mono _ e152 h95
        obtain ⟨a157, hx158, h⟩ := bindS h
        have h : a157 = r := Option.some.inj h
        subst h
        exact x_ret w151 (e_var (R := (rL (rL rB))) (x := s103) rfl h105) hx158 (fun v9 H9 G9 w9 e9 r9 => k v9 H9 G9 w9.upE r9)
def m_turned (rows0 : (List (List Bool))) : Option (List (List Bool)) :=
  ((rngM 0 (rows0.length : Int) >>= fun xs173 => mapS (fun x162 => (rngM 0 (rows0.length : Int) >>= fun xs172 => mapS (fun x168 => (atI rows0 x168 >>= fun t171 => atI t171 x162)) xs172)) xs173) >>= fun a174 => some a174)
theorem sc_turned : FnScope ["rows", "a", "b"] ["rows"] (defScope s_turned) := ⟨rfl, rfl, rfl, by decide +kernel, rfl, by decide +kernel, by decide +kernel⟩
theorem ok_turned (T : Tx K mg) : Fk P w K mg base CX0 1 "turned" ["rows"] (PF (aC (rL (rL rB)) aN) (rL (rL rB)) (fun i => m_turned i.1)) := by
  obtain ⟨fd, F⟩ := T.def_ 4 rfl
  have nd := sc_turned.nd
  refine fk_mk T.toTx (x := "turned") (T.glo 12 rfl) F (fun _ _ _ _ _ _ us hl => match us, hl with | [_], _ => rfl) (F.ok sc_turned (fun vs H Q E h => ?_) (fun cdv A outer s H vs Q E hr h => ?_))
  · obtain ⟨G, ⟨rows0, ⟨⟩⟩, r, e0, ⟨vrows0, _, rfl, hrows0, rfl⟩, h, k⟩ := h
    rfl
  · obtain ⟨G, ⟨rows0, ⟨⟩⟩, r, e0, ⟨vrows0, _, rfl, hrows0, rfl⟩, h, k⟩ := h
    have w0 := Wo.start e0
    have h : m_turned rows0 = some r := h
    unfold m_turned at h
    refine ⟨_, PSs.nox (pss_cons (ps_ret (pe_lc (own := [("a", 1)]) (by rfl) nd (pi_range1 (by rfl) (fr_range T) (pa_cons (pe_callB (r := rLn K) call_len_seq (by rfl) (fr_len T) (by decide +kernel) (pa_cons (pv 0) pa_nil)) pa_nil)) (blkOk_by (by kernel_rfl)) (fun _ _ _ _ _ => pg_name (i := 1) nd rfl (by first | exact Or.inl rfl | exact Or.inr rfl)) (fun _ _ _ _ _ => pts_nil) (fun _ _ _ _ _ => (pe_lc (own := [("b", 2)]) (by rfl) nd (pi_range1 (by rfl) (fr_range T) (pa_cons (pe_callB (r := rLn K) call_len_seq (by rfl) (fr_len T) (by decide +kernel) (pa_cons (pv 0) pa_nil)) pa_nil)) (blkOk_by (by kernel_rfl)) (fun _ _ _ _ _ => pg_name (i := 2) nd rfl (by first | exact Or.inl rfl | exact Or.inr rfl)) (fun _ _ _ _ _ => pts_nil) (fun _ _ _ _ _ => (pe_ix (r := rIxL K) ix_list (pe_ix (r := rIxL K) ix_list (pv 0) (pv 2) (fun _ _ => rfl)) (pv 1) (fun _ _ => rfl))))))) pss_nil), ?_⟩
    obtain ⟨a174, hx175, h⟩ := bindS h
    have h : a174 = r := Option.some.inj h
    subst h
    exact x_ret w0 (EL.e (el_mapR (el_lcR (j := 1) (ea_cons (e_cb rc_lenL (ea_cons (e_var (R := (rL (rL rB))) (x := rows0) rfl hrows0) ea_nil)) ea_nil) (fun _ => rfl) (fun _ _ _ _ _ _ => et_yes) (fun x162 G163 W164 eG159 eW160 eX161 => (EL.e (el_mapR (el_lcR (j := 2) (ea_cons (e_cb rc_lenL (ea_cons (e_var (R := (rL (rL rB))) (x := rows0) rfl (Rep.mono _ eG159 hrows0)) ea_nil)) ea_nil) (fun _ => rfl) (fun _ _ _ _ _ _ => et_yes) (fun x168 G169 W170 eG165 eW166 eX167 => (e_op rr_ixL (e_op rr_ixL (e_var (R := (rL (rL rB))) (x := rows0) rfl (Rep.mono _ eG165 (Rep.mono _ eG159 hrows0))) (e_var (R := rI) (x := x168) rfl rfl)) (e_var (R := rI) (x := x162) rfl rfl)))))))))) (by first | (simp only [be1, bs1, ba1] at hx175 ⊢; exact hx175) | exact hx175) (fun v9 H9 G9 w9 e9 r9 => k v9 H9 G9 w9.upE r9)
def m_least_above_b1 (rows0 : (List (List Bool))) (uppers_185 : (List Int)) (x210 : Int) (s199 : Unit) : Option (Stp Unit (Option Int)) :=
  (((lcS (fun x222 => (atI rows0 x210 >>= fun t227 => atI t227 x222)) (fun x222 => some x222) uppers_185 >>= fun t229 => some (t229.length : Int)) >>= fun t230 => some (t230 == (uppers_185.length : Int))) >>= fun b231 => bif b231 then (some (some x210) >>= fun a235 => some (Stp.rt a235)) else some (Stp.nx ()))
def m_least_above (rows0 : (List (List Bool))) (first0 : Int) (second0 : Int) : Option (Option Int) :=
  ((rngM 0 (rows0.length : Int) >>= fun xs184 => lcS (fun x179 => (andO ((atI rows0 first0 >>= fun t182 => atI t182 x179)) ((atI rows0 second0 >>= fun t183 => atI t183 x179)))) (fun x179 => some x179) xs184) >>= fun uppers_185 => (some uppers_185 >>= fun xs194 => forL (m_least_above_b1 rows0 uppers_185) xs194 () >>= Sum.elim (fun s199 => (some (none : (Option Int)) >>= fun a247 => some a247)) (fun r => some r)))
theorem sc_least_above : FnScope ["rows", "first", "second", "uppers", "found", "e"] ["rows", "first", "second"] (defScope s_least_above) := ⟨rfl, rfl, rfl, by decide +kernel, rfl, by decide +kernel, by decide +kernel⟩
theorem ok_least_above (T : Tx K mg) : Fk P w K mg base CX0 1 "least_above" ["rows", "first", "second"] (PF (aC (rL (rL rB)) (aC rI (aC rI aN))) (rO rI) (fun i => m_least_above i.1 i.2.1 i.2.2.1)) := by
  obtain ⟨fd, F⟩ := T.def_ 5 rfl
  have nd := sc_least_above.nd
  refine fk_mk T.toTx (x := "least_above") (T.glo 13 rfl) F (fun _ _ _ _ _ _ us hl => match us, hl with | [_, _, _], _ => rfl) (F.ok sc_least_above (fun vs H Q E h => ?_) (fun cdv A outer s H vs Q E hr h => ?_))
  · obtain ⟨G, ⟨rows0, first0, second0, ⟨⟩⟩, r, e0, ⟨vrows0, _, rfl, hrows0, vfirst0, _, rfl, hfirst0, vsecond0, _, rfl, hsecond0, rfl⟩, h, k⟩ := h
    rfl
  · obtain ⟨G, ⟨rows0, first0, second0, ⟨⟩⟩, r, e0, ⟨vrows0, _, rfl, hrows0, vfirst0, _, rfl, hfirst0, vsecond0, _, rfl, hsecond0, rfl⟩, h, k⟩ := h
    cases hfirst0
    cases hsecond0
    have w0 := Wo.start e0
    have h : m_least_above rows0 first0 second0 = some r := h
    unfold m_least_above at h
    refine ⟨_, PSs.nox (pss_cons (ps_setLc (i := 3) (own := [("e", 5)]) (by rfl) nd rfl rfl (sw_true rfl rfl rfl (by decide +kernel)) (pi_range1 (by rfl) (fr_range T) (pa_cons (pe_callB (r := rLn K) call_len_seq (by rfl) (fr_len T) (by decide +kernel) (pa_cons (pv 0) pa_nil)) pa_nil)) (blkOk_by (by kernel_rfl)) (fun _ _ _ _ _ => pg_name (i := 5) nd rfl (by first | exact Or.inl rfl | exact Or.inr rfl)) (fun _ _ _ _ _ => pts_one (PW.pt (pw_and (pt_val (pe_ix (r := rIxL K) ix_list (pe_ix (r := rIxL K) ix_list (pv 0) (pv 1) (fun _ _ => rfl)) (pv 5) (fun _ _ => rfl))) (pw_and1 (pt_val (pe_ix (r := rIxL K) ix_list (pe_ix (r := rIxL K) ix_list (pv 0) (pv 2) (fun _ _ => rfl)) (pv 5) (fun _ _ => rfl))))))) (fun _ _ _ _ _ => (pv 5))) (pss_cons (ps_for PassesOwn.never rfl (pi_list (pv 3)) (pg_name (i := 4) nd rfl (Or.inr rfl)) (pss_cons (ps_if (pt_cmpR op_eq (pe_callB (r := rLn K) call_len_seq (by rfl) (fr_len T) (by decide +kernel) (pa_cons (pe_lc (own := [("e", 5)]) (by rfl) nd (show L2.PI _ _ _ (iList K _) from pi_list (pv 3)) (blkOk_by (by kernel_rfl)) (fun _ _ _ _ _ => pg_name (i := 5) nd rfl (by first | exact Or.inl rfl | exact Or.inr rfl)) (fun _ _ _ _ _ => pts_one (pt_val (pe_ix (r := rIxL K) ix_list (pe_ix (r := rIxL K) ix_list (pv 0) (pv 4) (fun _ _ => rfl)) (pv 5) (fun _ _ => rfl)))) (fun _ _ _ _ _ => (pv 5))) pa_nil)) (pe_callB (r := rLn K) call_len_seq (by rfl) (fr_len T) (by decide +kernel) (pa_cons (pv 3) pa_nil)) (nomark _)) (pss_cons (ps_ret (pv 4)) pss_nil) pss_nil) pss_nil)) (pss_cons (ps_ret pe_non) pss_nil))), ?_⟩
    obtain ⟨uppers_185, hx186, h⟩ := bindS h
    refine x_set w0 (EL.e (el_lcR (j := 5) (ea_cons (e_cb rc_lenL (ea_cons (e_var (R := (rL (rL rB))) (x := rows0) rfl hrows0) ea_nil)) ea_nil) (fun _ => rfl) (fun x179 G180 W181 eG176 eW177 eX178 => (et_and (et_B (e_op rr_ixL (e_op rr_ixL (e_var (R := (rL (rL rB))) (x := rows0) rfl (Rep.mono _ eX178 (Rep.mono _ eG176 hrows0))) (e_var (R := rI) (x := first0) rfl rfl)) (e_var (R := rI) (x := x179) rfl rfl))) (et_B (e_op rr_ixL (e_op rr_ixL (e_var (R := (rL (rL rB))) (x := rows0) rfl (Rep.mono _ eX178 (Rep.mono _ eG176 hrows0))) (e_var (R := rI) (x := second0) rfl rfl)) (e_var (R := rI) (x := x179) rfl rfl))))) (fun x179 G180 W181 eG176 eW177 eX178 => (e_var (R := rI) (x := x179) rfl rfl)))) (by first | (simp only [be1, bs1, ba1] at hx186 ⊢; exact hx186) | exact hx186) ?_
    intro v189 H187 G190 w188 e191 h192
    have h193 := Rep.mono _ e191 hrows0
    obtain ⟨xs194, hx195, h⟩ := bindS h
    obtain ⟨t197, hx198, h⟩ := bindS h
    refine x_forL w188 (e_var (R := (rL rI)) (x := uppers_185) rfl h192) hx195 (fun i G' H' σ' => ∃ s199 : Unit, ∃ u200 : Option V, ∃ u201 : Option V, Wo G H [] G' H' [] ∧ Evl.Ex G190 G' ∧ σ' = [some vrows0, some (V.int first0), some (V.int second0), some v189, u201, u200] ∧ forL (m_least_above_b1 rows0 uppers_185) (xs194.drop i) s199 = some t197) (fun _ _ _ _ ⟨_, _, _, w, _⟩ => w.ex) ?_ ?_ ?_
    · intro G' H' w' e'
      exact ⟨(), (none), (none), w', e', rfl, hx198⟩
    · rintro G212 e213 i209 x210 v214 σ' G205 H208 hx211 e216 ⟨s199, u200, u201, w206, e207, rfl, hm203⟩ r215
      obtain ⟨q204, hb202, hm203⟩ := forL_at hx211 hm203
      have h217 := Rep.mono _ e207 h193
      have h218 := Rep.mono _ e207 h192
      refine g_name ?_
      cases r215
      unfold m_least_above_b1 at hb202
      obtain ⟨b231, hx232, hb202⟩ := bindS hb202
      refine x_if w206 (et_T (e_op rr_eqI (e_cb rc_lenL (ea_cons (EL.e (el_lcL (j := 5) (e_var (R := (rL rI)) (x := uppers_185) rfl (Rep.mono _ w206.ex h218)) (fun _ => rfl) (fun x222 v225 G223 W224 eG219 eW220 eX221 h226 => (et_B (e_op rr_ixL (e_op rr_ixL (e_var (R := (rL (rL rB))) (x := rows0) rfl (Rep.mono _ eX221 (Rep.mono _ eG219 (Rep.mono _ w206.ex h217)))) (e_var (R := rI) (x := x210) rfl rfl)) (e_var (R := rI) (x := x222) rfl (Rep.mono _ eX221 h226))))) (fun x222 v225 G223 W224 eG219 eW220 eX221 h226 => (e_var (R := rI) (x := x222) rfl h226)))) ea_nil)) (e_cb rc_lenL (ea_cons (e_var (R := (rL rI)) (x := uppers_185) rfl (Rep.mono _ w206.ex h218)) ea_nil)))) (by first | (simp only [be1, bs1, ba1] at hx232 ⊢; exact hx232) | exact hx232) ?_ ?_
      · intro hbb231 H233 w234
        subst hbb231
        have hb202 := bifT hb202
        obtain ⟨a235, hx236, hb202⟩ := bindS hb202
        have hb202 : some (Stp.rt a235) = some q204 := hb202
        cases hb202
        have hm203 : some (Sum.inr a235) = some t197 := hm203
        cases hm203
        have h : a235 = r := Option.some.inj h
        subst h
        exact x_ret w234 (e_some (e_var (R := rI) (x := x210) rfl rfl)) hx236 (fun v9 H9 G9 w9 e9 r9 => k v9 H9 G9 w9.upE r9)
      · intro hbb231 H237 w238
        subst hbb231
        have hb202 := bifF hb202
        refine x_next ?_
        refine x_next ?_
        have hb202 : Stp.nx () = q204 := Option.some.inj hb202
        subst hb202
        exact ⟨G205, (e216.trans (Evl.Ex.refl _)), (), (u200), (some (V.int x210)), w238, e207, rfl, hm203⟩
    · rintro σ' G239 H242 e243 ⟨s199, u200, u201, w240, e241, rfl, hm203⟩
      have hm203 := forL_end hm203
      subst hm203
      have h := elimL h
      have h245 := Rep.mono _ e241 h193
      have h246 := Rep.mono _ e241 h192
      obtain ⟨a247, hx248, h⟩ := bindS h
      have h : a247 = r := Option.some.inj h
      subst h
      exact x_ret w240 (e_none (R := rI)) hx248 (fun v9 H9 G9 w9 e9 r9 => k v9 H9 G9 w9.upE r9)
def m_bounds_table (rows0 : (List (List Bool))) : Option (List (List (Option Int))) :=
  (some (rows0.length : Int) >>= fun size_249 => ((rngM 0 size_249 >>= fun xs266 => mapS (fun x256 => (rngM 0 size_249 >>= fun xs265 => mapS (fun x262 => m_least_above rows0 x256 x262) xs265)) xs266) >>= fun a267 => some a267))
theorem sc_bounds_table : FnScope ["rows", "size", "a", "b"] ["rows"] (defScope s_bounds_table) := ⟨rfl, rfl, rfl, by decide +kernel, rfl, by decide +kernel, by decide +kernel⟩
theorem ok_bounds_table (T : Tx K mg) : Fk P w K mg base CX0 2 "bounds_table" ["rows"] (PF (aC (rL (rL rB)) aN) (rL (rL (rO rI))) (fun i => m_bounds_table i.1)) := by
  obtain ⟨fd_least_above, G_least_above, b_least_above, k_least_above, g_least_above⟩ := ok_least_above (w := w) (base := base) T
  obtain ⟨fd, F⟩ := T.def_ 6 rfl
  have nd := sc_bounds_table.nd
  refine fk_mk T.toTx (x := "bounds_table") (T.glo 14 rfl) F (fun _ _ _ _ _ _ us hl => match us, hl with | [_], _ => rfl) (F.ok sc_bounds_table (fun vs H Q E h => ?_) (fun cdv A outer s H vs Q E hr h => ?_))
  · obtain ⟨G, ⟨rows0, ⟨⟩⟩, r, e0, ⟨vrows0, _, rfl, hrows0, rfl⟩, h, k⟩ := h
    rfl
  · obtain ⟨G, ⟨rows0, ⟨⟩⟩, r, e0, ⟨vrows0, _, rfl, hrows0, rfl⟩, h, k⟩ := h
    have w0 := Wo.start e0
    have h : m_bounds_table rows0 = some r := h
    unfold m_bounds_table at h
    refine ⟨_, PSs.nox (pss_cons (ps_set (i := 1) nd rfl (Or.inr rfl) (pe_callB (r := rLn K) call_len_seq (by rfl) (fr_len T) (by decide +kernel) (pa_cons (pv 0) pa_nil))) (pss_cons (ps_ret (pe_lc (own := [("a", 2)]) (by rfl) nd (pi_range1 (by rfl) (fr_range T) (pa_cons (pv 1) pa_nil)) (blkOk_by (by kernel_rfl)) (fun _ _ _ _ _ => pg_name (i := 2) nd rfl (by first | exact Or.inl rfl | exact Or.inr rfl)) (fun _ _ _ _ _ => pts_nil) (fun _ _ _ _ _ => (pe_lc (own := [("b", 3)]) (by rfl) nd (pi_range1 (by rfl) (fr_range T) (pa_cons (pv 1) pa_nil)) (blkOk_by (by kernel_rfl)) (fun _ _ _ _ _ => pg_name (i := 3) nd rfl (by first | exact Or.inl rfl | exact Or.inr rfl)) (fun _ _ _ _ _ => pts_nil) (fun _ _ _ _ _ => (pe_call G_least_above (hr.mono (by decide)) rfl g_least_above k_least_above b_least_above .nil pass0 (pa_cons (pv 0) (pa_cons (pv 2) (pa_cons (pv 3) pa_nil))))))))) pss_nil)), ?_⟩
    obtain ⟨size_249, hx250, h⟩ := bindS h
    refine x_setI w0 (e_cb rc_lenL (ea_cons (e_var (R := (rL (rL rB))) (x := rows0) rfl hrows0) ea_nil)) hx250 ?_
    intro H251 w252
    obtain ⟨a267, hx268, h⟩ := bindS h
    have h : a267 = r := Option.some.inj h
    subst h
    exact x_ret w252 (EL.e (el_mapR (el_lcR (j := 2) (ea_cons (e_var (R := rI) (x := size_249) rfl rfl) ea_nil) (fun _ => rfl) (fun _ _ _ _ _ _ => et_yes) (fun x256 G257 W258 eG253 eW254 eX255 => (EL.e (el_mapR (el_lcR (j := 3) (ea_cons (e_var (R := rI) (x := size_249) rfl rfl) ea_nil) (fun _ => rfl) (fun _ _ _ _ _ _ => et_yes) (fun x262 G263 W264 eG259 eW260 eX261 => (e_call (ea_cons (e_var (R := (rL (rL rB))) (x := rows0) rfl (Rep.mono _ eG259 (Rep.mono _ eG253 hrows0))) (ea_cons (e_var (R := rI) (x := x256) rfl rfl) (ea_cons (e_var (R := rI) (x := x262) rfl rfl) ea_nil)))))))))))) (by first | (simp only [be1, bs1, ba1] at hx268 ⊢; exact hx268) | exact hx268) (fun v9 H9 G9 w9 e9 r9 => k v9 H9 G9 w9.upE r9)
def m_first_ring_b2 (rows0 : (List (List Bool))) (x287 : Int) (x309 : Int) (s299 : Unit) : Option (Stp Unit (Option (Int × Int))) :=
  ((andO ((atI rows0 x287 >>= fun t312 => atI t312 x309)) ((atI rows0 x309 >>= fun t313 => atI t313 x287))) >>= fun b314 => bif b314 then (some (some (x287, x309)) >>= fun a318 => some (Stp.rt a318)) else some (Stp.nx ()))
def m_first_ring_b1 (rows0 : (List (List Bool))) (x287 : Int) (s276 : Unit) : Option (Stp Unit (Option (Int × Int))) :=
  (some (x287 + (1 : Int)) >>= fun n290 => some (rows0.length : Int) >>= fun n292 => rngM n290 n292 >>= fun xs294 => forL (m_first_ring_b2 rows0 x287) xs294 () >>= Sum.elim (fun s299 => some (Stp.nx ())) (fun r => some (Stp.rt r)))
def m_first_ring (rows0 : (List (List Bool))) : Option (Option (Int × Int)) :=
  (some (rows0.length : Int) >>= fun n269 => rngM 0 n269 >>= fun xs271 => forL (m_first_ring_b1 rows0) xs271 () >>= Sum.elim (fun s276 => (some (none : (Option (Int × Int))) >>= fun a334 => some a334)) (fun r => some r))
theorem sc_first_ring : FnScope ["rows", "first", "second"] ["rows"] (defScope s_first_ring) := ⟨rfl, rfl, rfl, by decide +kernel, rfl, by decide +kernel, by decide +kernel⟩
theorem ok_first_ring (T : Tx K mg) : Fk P w K mg base CX0 1 "first_ring" ["rows"] (PF (aC (rL (rL rB)) aN) (rO (rP rI rI)) (fun i => m_first_ring i.1)) := by
  obtain ⟨fd, F⟩ := T.def_ 7 rfl
  have nd := sc_first_ring.nd
  refine fk_mk T.toTx (x := "first_ring") (T.glo 15 rfl) F (fun _ _ _ _ _ _ us hl => match us, hl with | [_], _ => rfl) (F.ok sc_first_ring (fun vs H Q E h => ?_) (fun cdv A outer s H vs Q E hr h => ?_))
  · obtain ⟨G, ⟨rows0, ⟨⟩⟩, r, e0, ⟨vrows0, _, rfl, hrows0, rfl⟩, h, k⟩ := h
    rfl
  · obtain ⟨G, ⟨rows0, ⟨⟩⟩, r, e0, ⟨vrows0, _, rfl, hrows0, rfl⟩, h, k⟩ := h
    have w0 := Wo.start e0
    have h : m_first_ring rows0 = some r := h
    unfold m_first_ring at h
    refine ⟨_, PSs.nox (pss_cons (ps_for PassesOwn.never rfl (pi_range1 (by rfl) (fr_range T) (pa_cons (pe_callB (r := rLn K) call_len_seq (by rfl) (fr_len T) (by decide +kernel) (pa_cons (pv 0) pa_nil)) pa_nil)) (pg_name (i := 1) nd rfl (Or.inl rfl)) (pss_cons (ps_for PassesOwn.never rfl (pi_range2 (by rfl) (fr_range T) (pa_cons (pe_op op_add (pv 1) pe_int) (pa_cons (pe_callB (r := rLn K) call_len_seq (by rfl) (fr_len T) (by decide +kernel) (pa_cons (pv 0) pa_nil)) pa_nil))) (pg_name (i := 2) nd rfl (Or.inl rfl)) (pss_cons (ps_if (PW.pt (pw_and (pt_val (pe_ix (r := rIxL K) ix_list (pe_ix (r := rIxL K) ix_list (pv 0) (pv 1) (fun _ _ => rfl)) (pv 2) (fun _ _ => rfl))) (pw_and1 (pt_val (pe_ix (r := rIxL K) ix_list (pe_ix (r := rIxL K) ix_list (pv 0) (pv 2) (fun _ _ => rfl)) (pv 1) (fun _ _ => rfl)))))) (pss_cons (ps_ret (pe_tup (pa_cons (pv 1) (pa_cons (pv 2) pa_nil)))) pss_nil) pss_nil) pss_nil)) pss_nil)) (pss_cons (ps_ret pe_non) pss_nil)), ?_⟩
    obtain ⟨n269, hx270, h⟩ := bindS h
    obtain ⟨xs271, hx272, h⟩ := bindS h
    obtain ⟨t274, hx275, h⟩ := bindS h
    refine x_forR w0 (ea_cons (Sim.E.is (e_cb rc_lenL (ea_cons (e_var (R := (rL (rL rB))) (x := rows0) rfl hrows0) ea_nil)) hx270) ea_nil) rfl hx272 (fun i G' H' σ' => ∃ s276 : Unit, ∃ u277 : Option V, ∃ u278 : Option V, Wo G H [] G' H' [] ∧ Evl.Ex G G' ∧ σ' = [some vrows0, u277, u278] ∧ forL (m_first_ring_b1 rows0) (xs271.drop i) s276 = some t274) ?_ ?_ ?_
    · intro G' H' w' e'
      exact ⟨(), (none), (none), w', e', rfl, hx275⟩
    · rintro i286 x287 σ' G282 H285 hx288 ⟨s276, u277, u278, w283, e284, rfl, hm280⟩
      obtain ⟨q281, hb279, hm280⟩ := forL_at hx288 hm280
      have h289 := Rep.mono _ e284 hrows0
      refine g_name ?_
      unfold m_first_ring_b1 at hb279
      obtain ⟨n290, hx291, hb279⟩ := bindS hb279
      obtain ⟨n292, hx293, hb279⟩ := bindS hb279
      obtain ⟨xs294, hx295, hb279⟩ := bindS hb279
      obtain ⟨t297, hx298, hb279⟩ := bindS hb279
      refine x_forR2 w283 (ea_cons (Sim.E.is (e_op rr_add (e_var (R := rI) (x := x287) rfl rfl) e_int) hx291) (ea_cons (Sim.E.is (e_cb rc_lenL (ea_cons (e_var (R := (rL (rL rB))) (x := rows0) rfl h289) ea_nil)) hx293) ea_nil)) rfl hx295 (fun i G' H' σ' => ∃ s299 : Unit, ∃ u300 : Option V, Wo G H [] G' H' [] ∧ Evl.Ex G282 G' ∧ σ' = [some vrows0, some (V.int x287), u300] ∧ forL (m_first_ring_b2 rows0 x287) (xs294.drop i) s299 = some t297) ?_ ?_ ?_
      · intro G' H' w' e'
        exact ⟨(), (u278), w', e', rfl, hx298⟩
      · rintro i308 x309 σ' G304 H307 hx310 ⟨s299, u300, w305, e306, rfl, hm302⟩
        obtain ⟨q303, hb301, hm302⟩ := forL_at hx310 hm302
        have h311 := Rep.mono _ e306 h289
        refine g_name ?_
        unfold m_first_ring_b2 at hb301
        obtain ⟨b314, hx315, hb301⟩ := bindS hb301
        refine x_if w305 (et_and (et_B (e_op rr_ixL (e_op rr_ixL (e_var (R := (rL (rL rB))) (x := rows0) rfl (Rep.mono _ w305.ex h311)) (e_var (R := rI) (x := x287) rfl rfl)) (e_var (R := rI) (x := x309) rfl rfl))) (et_B (e_op rr_ixL (e_op rr_ixL (e_var (R := (rL (rL rB))) (x := rows0) rfl (Rep.mono _ w305.ex h311)) (e_var (R := rI) (x := x309) rfl rfl)) (e_var (R := rI) (x := x287) rfl rfl)))) (by first | (simp only [be1, bs1, ba1] at hx315 ⊢; exact hx315) | exact hx315) ?_ ?_
        · intro hbb314 H316 w317
          subst hbb314
          have hb301 := bifT hb301
          obtain ⟨a318, hx319, hb301⟩ := bindS hb301
          have hb301 : some (Stp.rt a318) = some q303 := hb301
          cases hb301
          have hm302 : some (Sum.inr a318) = some t297 := hm302
          cases hm302
          have hb279 : some (Stp.rt a318) = some q281 := hb279
          cases hb279
          have hm280 : some (Sum.inr a318) = some t274 := hm280
          cases hm280
          have h : a318 = r := Option.some.inj h
          subst h
          exact x_ret w317 (e_some (e_pair (e_var (R := rI) (x := x287) rfl rfl) (e_var (R := rI) (x := x309) rfl rfl))) hx319 (fun v9 H9 G9 w9 e9 r9 => k v9 H9 G9 w9.upE r9)
        · intro hbb314 H320 w321
          subst hbb314
          have hb301 := bifF hb301
          refine x_next ?_
          refine x_next ?_
          have hb301 : Stp.nx () = q303 := Option.some.inj hb301
          subst hb301
          exact ⟨G304, (), (some (V.int x309)), w321, e306, rfl, hm302⟩
      · rintro σ' G322 H325 ⟨s299, u300, w323, e324, rfl, hm302⟩
        have hm302 := forL_end hm302
        subst hm302
        have hb279 := elimL hb279
        have h327 := Rep.mono _ e324 h289
        refine x_next ?_
        have hb279 : Stp.nx () = q281 := Option.some.inj hb279
        subst hb279
        exact ⟨G322, (), (some (V.int x287)), (u300), w323, (e284.trans e324), rfl, hm280⟩
    · rintro σ' G328 H331 ⟨s276, u277, u278, w329, e330, rfl, hm280⟩
      have hm280 := forL_end hm280
      subst hm280
      have h := elimL h
      have h333 := Rep.mono _ e330 hrows0
      obtain ⟨a334, hx335, h⟩ := bindS h
      have h : a334 = r := Option.some.inj h
      subst h
      exact x_ret w329 (e_none (R := (rP rI rI))) hx335 (fun v9 H9 G9 w9 e9 r9 => k v9 H9 G9 w9.upE r9)
def m_first_lack_b2 (table0 : (List (List (Option Int)))) (x354 : Int) (x376 : Int) (s366 : Unit) : Option (Stp Unit (Option (Int × Int))) :=
  (((atI table0 x354 >>= fun t379 => atI t379 x376) >>= fun t380 => some t380.isNone) >>= fun b381 => bif b381 then (some (some (x354, x376)) >>= fun a385 => some (Stp.rt a385)) else some (Stp.nx ()))
def m_first_lack_b1 (table0 : (List (List (Option Int)))) (x354 : Int) (s343 : Unit) : Option (Stp Unit (Option (Int × Int))) :=
  (some (x354 + (1 : Int)) >>= fun n357 => some (table0.length : Int) >>= fun n359 => rngM n357 n359 >>= fun xs361 => forL (m_first_lack_b2 table0 x354) xs361 () >>= Sum.elim (fun s366 => some (Stp.nx ())) (fun r => some (Stp.rt r)))
def m_first_lack (table0 : (List (List (Option Int)))) : Option (Option (Int × Int)) :=
  (some (table0.length : Int) >>= fun n336 => rngM 0 n336 >>= fun xs338 => forL (m_first_lack_b1 table0) xs338 () >>= Sum.elim (fun s343 => (some (none : (Option (Int × Int))) >>= fun a401 => some a401)) (fun r => some r))
theorem sc_first_lack : FnScope ["table", "first", "second"] ["table"] (defScope s_first_lack) := ⟨rfl, rfl, rfl, by decide +kernel, rfl, by decide +kernel, by decide +kernel⟩
theorem ok_first_lack (T : Tx K mg) : Fk P w K mg base CX0 1 "first_lack" ["table"] (PF (aC (rL (rL (rO rI))) aN) (rO (rP rI rI)) (fun i => m_first_lack i.1)) := by
  obtain ⟨fd, F⟩ := T.def_ 8 rfl
  have nd := sc_first_lack.nd
  refine fk_mk T.toTx (x := "first_lack") (T.glo 16 rfl) F (fun _ _ _ _ _ _ us hl => match us, hl with | [_], _ => rfl) (F.ok sc_first_lack (fun vs H Q E h => ?_) (fun cdv A outer s H vs Q E hr h => ?_))
  · obtain ⟨G, ⟨table0, ⟨⟩⟩, r, e0, ⟨vtable0, _, rfl, htable0, rfl⟩, h, k⟩ := h
    rfl
  · obtain ⟨G, ⟨table0, ⟨⟩⟩, r, e0, ⟨vtable0, _, rfl, htable0, rfl⟩, h, k⟩ := h
    have w0 := Wo.start e0
    have h : m_first_lack table0 = some r := h
    unfold m_first_lack at h
    refine ⟨_, PSs.nox (pss_cons (ps_for PassesOwn.never rfl (pi_range1 (by rfl) (fr_range T) (pa_cons (pe_callB (r := rLn K) call_len_seq (by rfl) (fr_len T) (by decide +kernel) (pa_cons (pv 0) pa_nil)) pa_nil)) (pg_name (i := 1) nd rfl (Or.inl rfl)) (pss_cons (ps_for PassesOwn.never rfl (pi_range2 (by rfl) (fr_range T) (pa_cons (pe_op op_add (pv 1) pe_int) (pa_cons (pe_callB (r := rLn K) call_len_seq (by rfl) (fr_len T) (by decide +kernel) (pa_cons (pv 0) pa_nil)) pa_nil))) (pg_name (i := 2) nd rfl (Or.inl rfl)) (pss_cons (ps_if (pt_cmpR op_isN (pe_ix (r := rIxL K) ix_list (pe_ix (r := rIxL K) ix_list (pv 0) (pv 1) (fun _ _ => rfl)) (pv 2) (fun _ _ => rfl)) pe_non (nomark _)) (pss_cons (ps_ret (pe_tup (pa_cons (pv 1) (pa_cons (pv 2) pa_nil)))) pss_nil) pss_nil) pss_nil)) pss_nil)) (pss_cons (ps_ret pe_non) pss_nil)), ?_⟩
    obtain ⟨n336, hx337, h⟩ := bindS h
    obtain ⟨xs338, hx339, h⟩ := bindS h
    obtain ⟨t341, hx342, h⟩ := bindS h
    refine x_forR w0 (ea_cons (Sim.E.is (e_cb rc_lenL (ea_cons (e_var (R := (rL (rL (rO rI)))) (x := table0) rfl htable0) ea_nil)) hx337) ea_nil) rfl hx339 (fun i G' H' σ' => ∃ s343 : Unit, ∃ u344 : Option V, ∃ u345 : Option V, Wo G H [] G' H' [] ∧ Evl.Ex G G' ∧ σ' = [some vtable0, u344, u345] ∧ forL (m_first_lack_b1 table0) (xs338.drop i) s343 = some t341) ?_ ?_ ?_
    · intro G' H' w' e'
      exact ⟨(), (none), (none), w', e', rfl, hx342⟩
    · rintro i353 x354 σ' G349 H352 hx355 ⟨s343, u344, u345, w350, e351, rfl, hm347⟩
      obtain ⟨q348, hb346, hm347⟩ := forL_at hx355 hm347
      have h356 := Rep.mono _ e351 htable0
      refine g_name ?_
      unfold m_first_lack_b1 at hb346
      obtain ⟨n357, hx358, hb346⟩ := bindS hb346
      obtain ⟨n359, hx360, hb346⟩ := bindS hb346
      obtain ⟨xs361, hx362, hb346⟩ := bindS hb346
      obtain ⟨t364, hx365, hb346⟩ := bindS hb346
      refine x_forR2 w350 (ea_cons (Sim.E.is (e_op rr_add (e_var (R := rI) (x := x354) rfl rfl) e_int) hx358) (ea_cons (Sim.E.is (e_cb rc_lenL (ea_cons (e_var (R := (rL (rL (rO rI)))) (x := table0) rfl h356) ea_nil)) hx360) ea_nil)) rfl hx362 (fun i G' H' σ' => ∃ s366 : Unit, ∃ u367 : Option V, Wo G H [] G' H' [] ∧ Evl.Ex G349 G' ∧ σ' = [some vtable0, some (V.int x354), u367] ∧ forL (m_first_lack_b2 table0 x354) (xs361.drop i) s366 = some t364) ?_ ?_ ?_
      · intro G' H' w' e'
        exact ⟨(), (u345), w', e', rfl, hx365⟩
      · rintro i375 x376 σ' G371 H374 hx377 ⟨s366, u367, w372, e373, rfl, hm369⟩
        obtain ⟨q370, hb368, hm369⟩ := forL_at hx377 hm369
        have h378 := Rep.mono _ e373 h356
        refine g_name ?_
        unfold m_first_lack_b2 at hb368
        obtain ⟨b381, hx382, hb368⟩ := bindS hb368
        refine x_if w372 (et_T (e_op (rr_isN nnI) (e_op rr_ixL (e_op rr_ixL (e_var (R := (rL (rL (rO rI)))) (x := table0) rfl (Rep.mono _ w372.ex h378)) (e_var (R := rI) (x := x354) rfl rfl)) (e_var (R := rI) (x := x376) rfl rfl)) e_non)) (by first | (simp only [be1, bs1, ba1] at hx382 ⊢; exact hx382) | exact hx382) ?_ ?_
        · intro hbb381 H383 w384
          subst hbb381
          have hb368 := bifT hb368
          obtain ⟨a385, hx386, hb368⟩ := bindS hb368
          have hb368 : some (Stp.rt a385) = some q370 := hb368
          cases hb368
          have hm369 : some (Sum.inr a385) = some t364 := hm369
          cases hm369
          have hb346 : some (Stp.rt a385) = some q348 := hb346
          cases hb346
          have hm347 : some (Sum.inr a385) = some t341 := hm347
          cases hm347
          have h : a385 = r := Option.some.inj h
          subst h
          exact x_ret w384 (e_some (e_pair (e_var (R := rI) (x := x354) rfl rfl) (e_var (R := rI) (x := x376) rfl rfl))) hx386 (fun v9 H9 G9 w9 e9 r9 => k v9 H9 G9 w9.upE r9)
        · intro hbb381 H387 w388
          subst hbb381
          have hb368 := bifF hb368
          refine x_next ?_
          refine x_next ?_
          have hb368 : Stp.nx () = q370 := Option.some.inj hb368
          subst hb368
          exact ⟨G371, (), (some (V.int x376)), w388, e373, rfl, hm369⟩
      · rintro σ' G389 H392 ⟨s366, u367, w390, e391, rfl, hm369⟩
        have hm369 := forL_end hm369
        subst hm369
        have hb346 := elimL hb346
        have h394 := Rep.mono _ e391 h356
        refine x_next ?_
        have hb346 : Stp.nx () = q348 := Option.some.inj hb346
        subst hb346
        exact ⟨G389, (), (some (V.int x354)), (u367), w390, (e351.trans e391), rfl, hm347⟩
    · rintro σ' G395 H398 ⟨s343, u344, u345, w396, e397, rfl, hm347⟩
      have hm347 := forL_end hm347
      subst hm347
      have h := elimL h
      have h400 := Rep.mono _ e397 htable0
      obtain ⟨a401, hx402, h⟩ := bindS h
      have h : a401 = r := Option.some.inj h
      subst h
      exact x_ret w396 (e_none (R := (rP rI rI))) hx402 (fun v9 H9 G9 w9 e9 r9 => k v9 H9 G9 w9.upE r9)
def m_longest_b3 (x464 : Int) (rows0 : (List (List Bool))) (x485 : Int) (s475 : (List Int)) : Option (List Int) :=
  (((andO (some (!(x464 == x485))) ((atI rows0 x464 >>= fun t489 => atI t489 x485))) >>= fun b490 => bif b490 then ((atI s475 x485 >>= fun t515 => ((atI s475 x464 >>= fun t514 => some (t514 + (1 : Int))) >>= fun t516 => some (if t516 > t515 then t516 else t515))) >>= fun a517 => some x485 >>= fun i518 => setM s475 i518 a517 >>= fun steps_519 => some steps_519) else some s475) >>= fun s506 => some (s506))
def m_longest_b2 (rows0 : (List (List Bool))) (x464 : Int) (s453 : (List Int)) : Option (List Int) :=
  (some (rows0.length : Int) >>= fun n468 => rngM 0 n468 >>= fun xs470 => forS (m_longest_b3 x464 rows0) xs470 s453 >>= fun s475 => some (s475))
def m_longest_b1 (rows0 : (List (List Bool))) (x438 : (List Bool)) (s426 : (List Int)) : Option (List Int) :=
  (some (rows0.length : Int) >>= fun n446 => rngM 0 n446 >>= fun xs448 => forS (m_longest_b2 rows0) xs448 s426 >>= fun s453 => some (s453))
def m_longest (rows0 : (List (List Bool))) : Option Int :=
  (mapS (fun x406 => some (0 : Int)) rows0 >>= fun steps_412 => (some rows0 >>= fun xs421 => forS (m_longest_b1 rows0) xs421 steps_412 >>= fun s426 => (maxL s426 >>= fun a561 => some a561)))
theorem sc_longest : FnScope ["rows", "steps", "_", "low", "high"] ["rows"] (defScope s_longest) := ⟨rfl, rfl, rfl, by decide +kernel, rfl, by decide +kernel, by decide +kernel⟩
theorem ok_longest (T : Tx K mg) : Fk P w K mg base CX0 1 "longest" ["rows"] (PF (aC (rL (rL rB)) aN) rI (fun i => m_longest i.1)) := by
  obtain ⟨fd, F⟩ := T.def_ 9 rfl
  have nd := sc_longest.nd
  refine fk_mk T.toTx (x := "longest") (T.glo 17 rfl) F (fun _ _ _ _ _ _ us hl => match us, hl with | [_], _ => rfl) (F.ok sc_longest (fun vs H Q E h => ?_) (fun cdv A outer s H vs Q E hr h => ?_))
  · obtain ⟨G, ⟨rows0, ⟨⟩⟩, r, e0, ⟨vrows0, _, rfl, hrows0, rfl⟩, h, k⟩ := h
    rfl
  · obtain ⟨G, ⟨rows0, ⟨⟩⟩, r, e0, ⟨vrows0, _, rfl, hrows0, rfl⟩, h, k⟩ := h
    have w0 := Wo.start e0
    have h : m_longest rows0 = some r := h
    unfold m_longest at h
    refine ⟨_, PSs.nox (pss_cons (ps_setLc (i := 1) (own := [("_", 2)]) (by rfl) nd rfl rfl (sw_true rfl rfl rfl (by decide +kernel)) (show L2.PI _ _ _ (iList K _) from pi_list (pv 0)) (blkOk_by (by kernel_rfl)) (fun _ _ _ _ _ => pg_name (i := 2) nd rfl (by first | exact Or.inl rfl | exact Or.inr rfl)) (fun _ _ _ _ _ => pts_nil) (fun _ _ _ _ _ => pe_int)) (pss_cons (ps_for PassesOwn.never rfl (pi_list (pv 0)) (pg_name (i := 2) nd rfl (Or.inl rfl)) (pss_cons (ps_for PassesOwn.never rfl (pi_range1 (by rfl) (fr_range T) (pa_cons (pe_callB (r := rLn K) call_len_seq (by rfl) (fr_len T) (by decide +kernel) (pa_cons (pv 0) pa_nil)) pa_nil)) (pg_name (i := 3) nd rfl (Or.inl rfl)) (pss_cons (ps_for PassesOwn.never rfl (pi_range1 (by rfl) (fr_range T) (pa_cons (pe_callB (r := rLn K) call_len_seq (by rfl) (fr_len T) (by decide +kernel) (pa_cons (pv 0) pa_nil)) pa_nil)) (pg_name (i := 4) nd rfl (Or.inl rfl)) (Evl.pss_cut (ps_if (PW.pt (pw_and (pt_cmpR op_ne (pv 3) (pv 4) (nomark _)) (pw_and1 (pt_val (pe_ix (r := rIxL K) ix_list (pe_ix (r := rIxL K) ix_list (pv 0) (pv 3) (fun _ _ => rfl)) (pv 4) (fun _ _ => rfl)))))) (pss_cons (ps_asg (pe_callB (call_max2 rfl) (by rfl) (fr_max T) (by decide +kernel) (pa_cons (pe_ix (r := rIxL K) ix_list (pv 1) (pv 4) (fun _ _ => rfl)) (pa_cons (pe_op op_add (pe_ix (r := rIxL K) ix_list (pv 1) (pv 3) (fun _ _ => rfl)) pe_int) pa_nil))) (pg_sub (pv 1) (pv 4) set_list)) pss_nil) pss_nil) pss_nil)) pss_nil)) pss_nil)) (pss_cons (ps_ret (pe_callB (r := rMax K) (cr_max rfl) (by rfl) (fr_max T) (by decide +kernel) (pa_cons (pv 1) pa_nil))) pss_nil))), ?_⟩
    obtain ⟨steps_412, hx413, h⟩ := bindS h
    refine x_setL w0 (el_map (el_lcL (j := 2) (e_var (R := (rL (rL rB))) (x := rows0) rfl hrows0) (fun _ => rfl) (fun _ _ _ _ _ _ _ _ => et_yes) (fun x406 v409 G407 W408 eG403 eW404 eX405 h410 => e_int))) hx413 ?_
    intro p416 H414 G417 n418 w415 e419
    have h420 := Rep.mono _ e419 hrows0
    obtain ⟨xs421, hx422, h⟩ := bindS h
    obtain ⟨t424, hx425, h⟩ := bindS h
    refine x_forL w415 (e_var (R := (rL (rL rB))) (x := rows0) rfl h420) hx422 (fun i G' H' σ' => ∃ s426 : (List Int), ∃ u427 : Option V, ∃ u428 : Option V, ∃ u429 : Option V, Wo G H [] G' H' [(p416, cL rI s426)] ∧ Evl.Ex G417 G' ∧ σ' = [some vrows0, some (V.ref p416), u427, u429, u428] ∧ forS (m_longest_b1 rows0) (xs421.drop i) s426 = some t424) (fun _ _ _ _ ⟨_, _, _, _, w, _⟩ => w.ex) ?_ ?_ ?_
    · intro G' H' w' e'
      exact ⟨steps_412, (none), (none), (none), w', e', rfl, hx425⟩
    · rintro G440 e441 i437 x438 v442 σ' G433 H436 hx439 e444 ⟨s426, u427, u428, u429, w434, e435, rfl, hm431⟩ r443
      obtain ⟨q432, hb430, hm431⟩ := forS_at hx439 hm431
      have h445 := Rep.mono _ e435 h420
      refine g_name ?_
      unfold m_longest_b1 at hb430
      obtain ⟨n446, hx447, hb430⟩ := bindS hb430
      obtain ⟨xs448, hx449, hb430⟩ := bindS hb430
      obtain ⟨t451, hx452, hb430⟩ := bindS hb430
      refine x_forR w434 (ea_cons (Sim.E.is (e_cb rc_lenL (ea_cons (e_var (R := (rL (rL rB))) (x := rows0) rfl h445) ea_nil)) hx447) ea_nil) rfl hx449 (fun i G' H' σ' => ∃ s453 : (List Int), ∃ u454 : Option V, ∃ u455 : Option V, Wo G H [] G' H' [(p416, cL rI s453)] ∧ Evl.Ex G433 G' ∧ σ' = [some vrows0, some (V.ref p416), some v442, u455, u454] ∧ forS (m_longest_b2 rows0) (xs448.drop i) s453 = some t451) ?_ ?_ ?_
      · intro G' H' w' e'
        exact ⟨s426, (u428), (u429), w', e', rfl, hx452⟩
      · rintro i463 x464 σ' G459 H462 hx465 ⟨s453, u454, u455, w460, e461, rfl, hm457⟩
        obtain ⟨q458, hb456, hm457⟩ := forS_at hx465 hm457
        have h466 := Rep.mono _ e461 h445
        have h467 := Rep.mono _ e461 r443
        refine g_name ?_
        unfold m_longest_b2 at hb456
        obtain ⟨n468, hx469, hb456⟩ := bindS hb456
        obtain ⟨xs470, hx471, hb456⟩ := bindS hb456
        obtain ⟨t473, hx474, hb456⟩ := bindS hb456
        refine x_forR w460 (ea_cons (Sim.E.is (e_cb rc_lenL (ea_cons (e_var (R := (rL (rL rB))) (x := rows0) rfl h466) ea_nil)) hx469) ea_nil) rfl hx471 (fun i G' H' σ' => ∃ s475 : (List Int), ∃ u476 : Option V, Wo G H [] G' H' [(p416, cL rI s475)] ∧ Evl.Ex G459 G' ∧ σ' = [some vrows0, some (V.ref p416), some v442, some (V.int x464), u476] ∧ forS (m_longest_b3 x464 rows0) (xs470.drop i) s475 = some t473) ?_ ?_ ?_
        · intro G' H' w' e'
          exact ⟨s453, (u454), w', e', rfl, hx474⟩
        · rintro i484 x485 σ' G480 H483 hx486 ⟨s475, u476, w481, e482, rfl, hm478⟩
          obtain ⟨q479, hb477, hm478⟩ := forS_at hx486 hm478
          have h487 := Rep.mono _ e482 h466
          have h488 := Rep.mono _ e482 h467
          refine g_name ?_
          unfold m_longest_b3 at hb477
          obtain ⟨s506, hx507, hb477⟩ := bindS hb477
          refine o_cut (fun σ' H' => ∃ G' : Hp, Wo G H [] G' H' [(p416, cL rI s506)] ∧ Evl.Ex G480 G' ∧ σ' = [some vrows0, some (V.ref p416), some v442, some (V.int x464), some (V.int x485)]) ?_ ?_
          · obtain ⟨b490, hx511, hx507⟩ := bindS hx507
            refine x_if w481 (et_and (et_T (e_op rr_neI (e_var (R := rI) (x := x464) rfl rfl) (e_var (R := rI) (x := x485) rfl rfl))) (et_B (e_op rr_ixL (e_op rr_ixL (e_var (R := (rL (rL rB))) (x := rows0) rfl (Rep.mono _ w481.ex h487)) (e_var (R := rI) (x := x464) rfl rfl)) (e_var (R := rI) (x := x485) rfl rfl)))) (by first | (simp only [be1, bs1, ba1] at hx511 ⊢; exact hx511) | exact hx511) ?_ ?_
            · intro hbb490 H512 w513
              subst hbb490
              have hx507 := bifT hx507
              obtain ⟨a517, hx520, hx507⟩ := bindS hx507
              obtain ⟨i518, hx521, hx507⟩ := bindS hx507
              obtain ⟨steps_519, hx522, hx507⟩ := bindS hx507
              refine x_setIx (j := 0) w513 rfl rfl (Sim.E.s scI (e_cb rc_max2 (ea_cons (e_op rr_ixL (e_var (R := (rL rI)) (x := s475) rfl (w513.rlAt (i := 0) rfl)) (e_var (R := rI) (x := x485) rfl rfl)) (ea_cons (e_op rr_add (e_op rr_ixL (e_var (R := (rL rI)) (x := s475) rfl (w513.rlAt (i := 0) rfl)) (e_var (R := rI) (x := x464) rfl rfl)) e_int) ea_nil)))) (by first | (simp only [be1, bs1, ba1] at hx520 ⊢; exact hx520) | exact hx520) (e_var (R := rI) (x := x485) rfl rfl) (by first | (simp only [be1, bs1, ba1] at hx521 ⊢; exact hx521) | exact hx521) hx522 ?_
              intro H523 G524 w525 e526
              have h527 := Rep.mono _ e526 h487
              have h528 := Rep.mono _ e526 h488
              have w525 : Wo G H [] G524 H523 [(p416, cL rI steps_519)] := w525
              refine x_next ?_
              have hx507 : steps_519 = s506 := Option.some.inj hx507
              subst hx507
              exact ⟨G524, w525, e526, rfl⟩
            · intro hbb490 H529 w530
              subst hbb490
              have hx507 := bifF hx507
              refine x_next ?_
              have hx507 : s475 = s506 := Option.some.inj hx507
              subst hx507
              exact ⟨G480, w530, (Evl.Ex.refl _), rfl⟩
          · rintro σ' H534 ⟨G531, w509, e508, rfl⟩
            have h532 := Rep.mono _ e508 h487
            have h533 := Rep.mono _ e508 h488
            refine x_next ?_
            have hb477 : s506 = q479 := Option.some.inj hb477
            subst hb477
            exact ⟨G531, s506, (some (V.int x485)), w509, (e482.trans e508), rfl, hm478⟩
        · rintro σ' G535 H538 ⟨s475, u476, w536, e537, rfl, hm478⟩
          have hm478 := forS_end hm478
          subst hm478
          have h540 := Rep.mono _ e537 h466
          have h541 := Rep.mono _ e537 h467
          refine x_next ?_
          have hb456 : s475 = q458 := Option.some.inj hb456
          subst hb456
          exact ⟨G535, s475, (u476), (some (V.int x464)), w536, (e461.trans e537), rfl, hm457⟩
      · rintro σ' G542 H545 ⟨s453, u454, u455, w543, e544, rfl, hm457⟩
        have hm457 := forS_end hm457
        subst hm457
        have h547 := Rep.mono _ e544 h445
        have h548 := Rep.mono _ e544 r443
        refine x_next ?_
        have hb430 : s453 = q432 := Option.some.inj hb430
        subst hb430
        exact ⟨G542, (e444.trans e544), s453, (some v442), (u454), (u455), w543, (e435.trans e544), rfl, hm431⟩
    · rintro σ' G549 H552 e553 ⟨s426, u427, u428, u429, w550, e551, rfl, hm431⟩
      have hm431 := forS_end hm431
      subst hm431
      have h555 := Rep.mono _ e551 h420
      obtain ⟨G556, w557, e558, h559⟩ := w550.freezeAt (i := 0) rfl n418
      have h560 := Rep.mono _ e558 h555
      have w557 : Wo G H [] G556 H552 [] := w557
      obtain ⟨a561, hx562, h⟩ := bindS h
      have h : a561 = r := Option.some.inj h
      subst h
      exact x_ret w557 (e_cb rc_maxL (ea_cons (e_var (R := (rL rI)) (x := s426) rfl h559) ea_nil)) hx562 (fun v9 H9 G9 w9 e9 r9 => k v9 H9 G9 w9.upE r9)
def m_Order___init___b2 (size0 : Int) (x613 : Int) (s603 : Unit) : Option Unit :=
  (some ((decide (x613 < (0 : Int))) || (decide (size0 ≤ x613))) >>= fun b621 => bif b621 then none else some (()))
def m_Order___init___b1 (size0 : Int) (x586 : (Int × Int)) (s574 : Unit) : Option Unit :=
  (some ([x586.1, x586.2]) >>= fun xs598 => forS (m_Order___init___b2 size0) xs598 () >>= fun s603 => some (()))
def m_Order___init__ (size0 : Int) (pairs0 : (List (Int × Int))) : Option m_Order :=
  (some ((decide (size0 < (1 : Int))) || (decide ((12 : Int) < size0))) >>= fun b563 => bif b563 then none else (some pairs0 >>= fun xs569 => forS (m_Order___init___b1 size0) xs569 () >>= fun s574 => (m_closure size0 pairs0 >>= fun above_641 => (m_first_ring above_641 >>= fun bad_650 => (some bad_650.isSome >>= fun b660 => bif b660 then none else (m_bounds_table above_641 >>= fun joins_666 => (m_first_lack joins_666 >>= fun bad_677 => (some bad_677.isSome >>= fun b689 => bif b689 then none else ((m_turned above_641 >>= fun t695 => m_bounds_table t695) >>= fun meets_696 => (m_first_lack meets_696 >>= fun bad_708 => (some bad_708.isSome >>= fun b721 => bif b721 then none else (some above_641 >>= fun f727 => (some joins_666 >>= fun f738 => (some meets_696 >>= fun f749 => (rngM 0 size0 >>= fun f760 => (m_longest above_641 >>= fun f771 => some (m_Order.mk f727 f738 f749 f760 f771)))))))))))))))))
theorem sc_Order___init__ : FnScope ["self", "size", "pairs", "above", "bad", "joins", "meets", "low", "high", "value"] ["self", "size", "pairs"] (defScope s_Order___init__) := ⟨rfl, rfl, rfl, by decide +kernel, rfl, by decide +kernel, by decide +kernel⟩
theorem ok_Order___init__ (T : Tx K mg) : Fm P w K mg base CX0 3 "Order" "__init__" ["self", "size", "pairs"] (Sim.PI (He.ga K "Order") (aC rI (aC (rL (rP rI rI)) aN)) ns_Order (fl_Order K) (fun i => m_Order___init__ i.1 i.2.1)) := by
  obtain ⟨fd_closure, G_closure, b_closure, k_closure, g_closure⟩ := ok_closure (w := w) (base := base) T
  obtain ⟨fd_first_ring, G_first_ring, b_first_ring, k_first_ring, g_first_ring⟩ := ok_first_ring (w := w) (base := base) T
  obtain ⟨fd_bounds_table, G_bounds_table, b_bounds_table, k_bounds_table, g_bounds_table⟩ := ok_bounds_table (w := w) (base := base) T
  obtain ⟨fd_first_lack, G_first_lack, b_first_lack, k_first_lack, g_first_lack⟩ := ok_first_lack (w := w) (base := base) T
  obtain ⟨fd_turned, G_turned, b_turned, k_turned, g_turned⟩ := ok_turned (w := w) (base := base) T
  obtain ⟨fd_longest, G_longest, b_longest, k_longest, g_longest⟩ := ok_longest (w := w) (base := base) T
  obtain ⟨u_Order_MOST, c_Order_MOST⟩ := T.con 0 (C := "Order") (f := "MOST") (v := .int 12) rfl
  obtain ⟨fd, F⟩ := T.def_ 11 rfl
  have nd := sc_Order___init__.nd
  refine fm_mk F (fun _ _ _ _ _ _ us hl => match us, hl with | [_, _, _], _ => rfl) (F.ok sc_Order___init__ (fun vs H Q E h => ?_) (fun cdv A outer s H vs Q E hr h => ?_))
  · obtain ⟨G, l, _, ⟨size0, pairs0, ⟨⟩⟩, r, rfl, wd, ⟨vsize0, _, rfl, hsize0, vpairs0, _, rfl, hpairs0, rfl⟩, h, k⟩ := h
    rfl
  · obtain ⟨G, l, _, ⟨size0, pairs0, ⟨⟩⟩, r, rfl, wd, ⟨vsize0, _, rfl, hsize0, vpairs0, _, rfl, hpairs0, rfl⟩, h, k⟩ := h
    cases hsize0
    have w0 : Wo G H [l] G H _ := Wo.startC wd
    have h : m_Order___init__ size0 pairs0 = some r := h
    unfold m_Order___init__ at h
    refine ⟨_, PSs.nox (pss_cons (ps_if (PW.pt (pw_or (pt_cmpR op_lt (pv 1) pe_int (nomark _)) (pw_or1 (pt_cmpR op_gt (pv 1) (pe_con (pv 0) rfl) (nomark _))))) (pss_cons ps_never pss_nil) pss_nil) (pss_cons (ps_for PassesOwn.never rfl (pi_list (pv 2)) (pg_tup (by rfl) (pgs_cons (pg_name (i := 7) nd rfl (by first | exact Or.inl rfl | exact Or.inr rfl)) (pgs_cons (pg_name (i := 8) nd rfl (by first | exact Or.inl rfl | exact Or.inr rfl)) pgs_nil))) (pss_cons (ps_for PassesOwn.never rfl (pi_tup (pe_tup (pa_cons (pv 7) (pa_cons (pv 8) pa_nil)))) (pg_name (i := 9) nd rfl (Or.inl rfl)) (pss_cons (ps_if (PW.pt (pw_or (pt_cmpR op_lt (pv 9) pe_int (nomark _)) (pw_or1 (pt_cmpR op_ge (pv 9) (pv 1) (nomark _))))) (pss_cons ps_never pss_nil) pss_nil) pss_nil)) pss_nil)) (pss_cons (ps_set (i := 3) nd rfl (Or.inl rfl) (pe_call G_closure (hr.mono (by decide)) rfl g_closure k_closure b_closure .nil pass0 (pa_cons (pv 1) (pa_cons (pv 2) pa_nil)))) (pss_cons (ps_set (i := 4) nd rfl (Or.inl rfl) (pe_call G_first_ring (hr.mono (by decide)) rfl g_first_ring k_first_ring b_first_ring .nil pass0 (pa_cons (pv 3) pa_nil))) (pss_cons (ps_if (pt_cmpR op_notN (pv 4) pe_non (nomark _)) (pss_cons ps_never pss_nil) pss_nil) (pss_cons (ps_set (i := 5) nd rfl (Or.inl rfl) (pe_call G_bounds_table (hr.mono (by decide)) rfl g_bounds_table k_bounds_table b_bounds_table .nil pass0 (pa_cons (pv 3) pa_nil))) (pss_cons (ps_set (i := 4) nd rfl (Or.inl rfl) (pe_call G_first_lack (hr.mono (by decide)) rfl g_first_lack k_first_lack b_first_lack .nil pass0 (pa_cons (pv 5) pa_nil))) (pss_cons (ps_if (pt_cmpR op_notN (pv 4) pe_non (nomark _)) (pss_cons ps_never pss_nil) pss_nil) (pss_cons (ps_set (i := 6) nd rfl (Or.inl rfl) (pe_call G_bounds_table (hr.mono (by decide)) rfl g_bounds_table k_bounds_table b_bounds_table .nil pass0 (pa_cons (pe_call G_turned (hr.mono (by decide)) rfl g_turned k_turned b_turned .nil pass0 (pa_cons (pv 3) pa_nil)) pa_nil))) (pss_cons (ps_set (i := 4) nd rfl (Or.inl rfl) (pe_call G_first_lack (hr.mono (by decide)) rfl g_first_lack k_first_lack b_first_lack .nil pass0 (pa_cons (pv 6) pa_nil))) (pss_cons (ps_if (pt_cmpR op_notN (pv 4) pe_non (nomark _)) (pss_cons ps_never pss_nil) pss_nil) (pss_cons (ps_fld (pv 0) (pv 3) rfl) (pss_cons (ps_fld (pv 0) (pv 5) rfl) (pss_cons (ps_fld (pv 0) (pv 6) rfl) (pss_cons (ps_fld (pv 0) (pe_listRg (by rfl) (by rfl) (fr_list T) (prg_1 (by rfl) (fr_range T) (pv 1))) rfl) (pss_cons (ps_fld (pv 0) (pe_call G_longest (hr.mono (by decide)) rfl g_longest k_longest b_longest .nil pass0 (pa_cons (pv 3) pa_nil)) rfl) pss_nil)))))))))))))))), ?_⟩
    obtain ⟨b563, hx564, h⟩ := bindS h
    refine x_if w0 (et_orP (et_T (e_op rr_lt (e_var (R := rI) (x := size0) rfl rfl) e_int)) (et_T (e_op rr_gt (e_var (R := rI) (x := size0) rfl rfl) (e_conC (S := rI) (x := (12 : Int)) (j := 0) w0 rfl rfl (T.cls 47 rfl) c_Order_MOST (by decide +kernel) (fun _ => rfl))))) hx564 ?_ ?_
    · intro hbb563 H565 w566
      subst hbb563
      have h := bifT h
      cases (show none = some _ from h)
    · intro hbb563 H567 w568
      subst hbb563
      have h := bifF h
      refine x_next ?_
      obtain ⟨xs569, hx570, h⟩ := bindS h
      obtain ⟨t572, hx573, h⟩ := bindS h
      refine x_forL w568 (e_var (R := (rL (rP rI rI))) (x := pairs0) rfl hpairs0) hx570 (fun i G' H' σ' => ∃ s574 : Unit, ∃ u575 : Option V, ∃ u576 : Option V, ∃ u577 : Option V, Wo G H [l] G' H' [(l, cI (He.ga K "Order") [] [])] ∧ Evl.Ex G G' ∧ σ' = [some (V.ref l), some (V.int size0), some vpairs0, none, none, none, none, u576, u575, u577] ∧ forS (m_Order___init___b1 size0) (xs569.drop i) s574 = some t572) (fun _ _ _ _ ⟨_, _, _, _, w, _⟩ => w.ex) ?_ ?_ ?_
      · intro G' H' w' e'
        exact ⟨(), (none), (none), (none), w', e', rfl, hx573⟩
      · rintro G588 e589 i585 x586 v590 σ' G581 H584 hx587 e592 ⟨s574, u575, u576, u577, w582, e583, rfl, hm579⟩ r591
        obtain ⟨q580, hb578, hm579⟩ := forS_at hx587 hm579
        have h593 := Rep.mono _ e583 hpairs0
        refine g_pair (i := 7) (j := 8) r591 w582.ex ?_
        intro v594 v595 r596 r597
        cases r596
        cases r597
        unfold m_Order___init___b1 at hb578
        obtain ⟨xs598, hx599, hb578⟩ := bindS hb578
        obtain ⟨t601, hx602, hb578⟩ := bindS hb578
        refine x_forT w582 (e_tupH (eal_cons (e_var (R := rI) (x := x586.1) rfl rfl) (eal_cons (e_var (R := rI) (x := x586.2) rfl rfl) eal_nil))) hx599 (fun i G' H' σ' => ∃ s603 : Unit, ∃ u604 : Option V, Wo G H [l] G' H' [(l, cI (He.ga K "Order") [] [])] ∧ Evl.Ex G581 G' ∧ σ' = [some (V.ref l), some (V.int size0), some vpairs0, none, none, none, none, some (V.int x586.1), some (V.int x586.2), u604] ∧ forS (m_Order___init___b2 size0) (xs598.drop i) s603 = some t601) (fun _ _ _ _ ⟨_, _, w, _⟩ => w.ex) ?_ ?_ ?_
        · intro G' H' w' e'
          exact ⟨(), (u577), w', e', rfl, hx602⟩
        · rintro G615 e616 i612 x613 v617 σ' G608 H611 hx614 e619 ⟨s603, u604, w609, e610, rfl, hm606⟩ r618
          obtain ⟨q607, hb605, hm606⟩ := forS_at hx614 hm606
          have h620 := Rep.mono _ e610 h593
          refine g_name ?_
          cases r618
          unfold m_Order___init___b2 at hb605
          obtain ⟨b621, hx622, hb605⟩ := bindS hb605
          refine x_if w609 (et_orP (et_T (e_op rr_lt (e_var (R := rI) (x := x613) rfl rfl) e_int)) (et_T (e_op rr_ge (e_var (R := rI) (x := x613) rfl rfl) (e_var (R := rI) (x := size0) rfl rfl)))) hx622 ?_ ?_
          · intro hbb621 H623 w624
            subst hbb621
            have hb605 := bifT hb605
            cases (show none = some _ from hb605)
          · intro hbb621 H625 w626
            subst hbb621
            have hb605 := bifF hb605
            refine x_next ?_
            refine x_next ?_
            have hb605 : () = q607 := Option.some.inj hb605
            subst hb605
            exact ⟨G608, (e619.trans (Evl.Ex.refl _)), (), (some (V.int x613)), w626, e610, rfl, hm606⟩
        · rintro σ' G627 H630 e631 ⟨s603, u604, w628, e629, rfl, hm606⟩
          have hm606 := forS_end hm606
          subst hm606
          have h633 := Rep.mono _ e629 h593
          refine x_next ?_
          have hb578 : () = q580 := Option.some.inj hb578
          subst hb578
          exact ⟨G627, (e592.trans e629), (), (some (V.int x586.2)), (some (V.int x586.1)), (u604), w628, (e583.trans e629), rfl, hm579⟩
      · rintro σ' G634 H637 e638 ⟨s574, u575, u576, u577, w635, e636, rfl, hm579⟩
        have hm579 := forS_end hm579
        subst hm579
        have h640 := Rep.mono _ e636 hpairs0
        obtain ⟨above_641, hx642, h⟩ := bindS h
        refine x_set w635 (e_call (ea_cons (e_var (R := rI) (x := size0) rfl rfl) (ea_cons (e_var (R := (rL (rP rI rI))) (x := pairs0) rfl h640) ea_nil))) (by first | (simp only [be1, bs1, ba1] at hx642 ⊢; exact hx642) | exact hx642) ?_
        intro v645 H643 G646 w644 e647 h648
        have h649 := Rep.mono _ e647 h640
        obtain ⟨bad_650, hx651, h⟩ := bindS h
        refine x_set w644 (e_call (ea_cons (e_var (R := (rL (rL rB))) (x := above_641) rfl h648) ea_nil)) (by first | (simp only [be1, bs1, ba1] at hx651 ⊢; exact hx651) | exact hx651) ?_
        intro v654 H652 G655 w653 e656 h657
        have h658 := Rep.mono _ e656 h649
        have h659 := Rep.mono _ e656 h648
        obtain ⟨b660, hx661, h⟩ := bindS h
        refine x_if w653 (et_T (e_op (rr_notN nnP) (e_var (R := (rO (rP rI rI))) (x := bad_650) rfl (Rep.mono _ w653.ex h657)) e_non)) hx661 ?_ ?_
        · intro hbb660 H662 w663
          subst hbb660
          have h := bifT h
          cases (show none = some _ from h)
        · intro hbb660 H664 w665
          subst hbb660
          have h := bifF h
          refine x_next ?_
          obtain ⟨joins_666, hx667, h⟩ := bindS h
          refine x_set w665 (e_call (ea_cons (e_var (R := (rL (rL rB))) (x := above_641) rfl h659) ea_nil)) (by first | (simp only [be1, bs1, ba1] at hx667 ⊢; exact hx667) | exact hx667) ?_
          intro v670 H668 G671 w669 e672 h673
          have h674 := Rep.mono _ e672 h658
          have h675 := Rep.mono _ e672 h659
          have h676 := Rep.mono _ e672 h657
          obtain ⟨bad_677, hx678, h⟩ := bindS h
          refine x_set w669 (e_call (ea_cons (e_var (R := (rL (rL (rO rI)))) (x := joins_666) rfl h673) ea_nil)) (by first | (simp only [be1, bs1, ba1] at hx678 ⊢; exact hx678) | exact hx678) ?_
          intro v681 H679 G682 w680 e683 h684
          have h685 := Rep.mono _ e683 h674
          have h686 := Rep.mono _ e683 h675
          have h687 := Rep.mono _ e683 h676
          have h688 := Rep.mono _ e683 h673
          obtain ⟨b689, hx690, h⟩ := bindS h
          refine x_if w680 (et_T (e_op (rr_notN nnP) (e_var (R := (rO (rP rI rI))) (x := bad_677) rfl (Rep.mono _ w680.ex h684)) e_non)) hx690 ?_ ?_
          · intro hbb689 H691 w692
            subst hbb689
            have h := bifT h
            cases (show none = some _ from h)
          · intro hbb689 H693 w694
            subst hbb689
            have h := bifF h
            refine x_next ?_
            obtain ⟨meets_696, hx697, h⟩ := bindS h
            refine x_set w694 (e_call (ea_cons (e_call (ea_cons (e_var (R := (rL (rL rB))) (x := above_641) rfl h686) ea_nil)) ea_nil)) (by first | (simp only [be1, bs1, ba1] at hx697 ⊢; exact hx697) | exact hx697) ?_
            intro v700 H698 G701 w699 e702 h703
            have h704 := Rep.mono _ e702 h685
            have h705 := Rep.mono _ e702 h686
            have h706 := Rep.mono _ e702 h684
            have h707 := Rep.mono _ e702 h688
            obtain ⟨bad_708, hx709, h⟩ := bindS h
            refine x_set w699 (e_call (ea_cons (e_var (R := (rL (rL (rO rI)))) (x := meets_696) rfl h703) ea_nil)) (by first | (simp only [be1, bs1, ba1] at hx709 ⊢; exact hx709) | exact hx709) ?_
            intro v712 H710 G713 w711 e714 h715
            have h716 := Rep.mono _ e714 h704
            have h717 := Rep.mono _ e714 h705
            have h718 := Rep.mono _ e714 h706
            have h719 := Rep.mono _ e714 h707
            have h720 := Rep.mono _ e714 h703
            obtain ⟨b721, hx722, h⟩ := bindS h
            refine x_if w711 (et_T (e_op (rr_notN nnP) (e_var (R := (rO (rP rI rI))) (x := bad_708) rfl (Rep.mono _ w711.ex h715)) e_non)) hx722 ?_ ?_
            · intro hbb721 H723 w724
              subst hbb721
              have h := bifT h
              cases (show none = some _ from h)
            · intro hbb721 H725 w726
              subst hbb721
              have h := bifF h
              refine x_next ?_
              obtain ⟨f727, hx728, h⟩ := bindS h
              refine x_fldN (j := 0) w726 rfl rfl (e_var (R := (rL (rL rB))) (x := above_641) rfl h717) hx728 (T.cls 47 rfl) (T.noat 48 rfl) (by decide +kernel) (by decide) ?_
              intro H729 G730 w731 e732
              have h733 := Rep.mono _ e732 h716
              have h734 := Rep.mono _ e732 h717
              have h735 := Rep.mono _ e732 h715
              have h736 := Rep.mono _ e732 h719
              have h737 := Rep.mono _ e732 h720
              have w731 : Wo G H [l] G730 H729 [(l, cI (He.ga K "Order") ["_above"] [pd (rL (rL rB)) f727])] := w731
              obtain ⟨f738, hx739, h⟩ := bindS h
              refine x_fldN (j := 0) w731 rfl rfl (e_var (R := (rL (rL (rO rI)))) (x := joins_666) rfl h736) hx739 (T.cls 47 rfl) (T.noat 49 rfl) (by decide +kernel) (by decide) ?_
              intro H740 G741 w742 e743
              have h744 := Rep.mono _ e743 h733
              have h745 := Rep.mono _ e743 h734
              have h746 := Rep.mono _ e743 h735
              have h747 := Rep.mono _ e743 h736
              have h748 := Rep.mono _ e743 h737
              have w742 : Wo G H [l] G741 H740 [(l, cI (He.ga K "Order") ["_above", "_joins"] [pd (rL (rL rB)) f727, pd (rL (rL (rO rI))) f738])] := w742
              obtain ⟨f749, hx750, h⟩ := bindS h
              refine x_fldN (j := 0) w742 rfl rfl (e_var (R := (rL (rL (rO rI)))) (x := meets_696) rfl h748) hx750 (T.cls 47 rfl) (T.noat 50 rfl) (by decide +kernel) (by decide) ?_
              intro H751 G752 w753 e754
              have h755 := Rep.mono _ e754 h744
              have h756 := Rep.mono _ e754 h745
              have h757 := Rep.mono _ e754 h746
              have h758 := Rep.mono _ e754 h747
              have h759 := Rep.mono _ e754 h748
              have w753 : Wo G H [l] G752 H751 [(l, cI (He.ga K "Order") ["_above", "_joins", "_meets"] [pd (rL (rL rB)) f727, pd (rL (rL (rO rI))) f738, pd (rL (rL (rO rI))) f749])] := w753
              obtain ⟨f760, hx761, h⟩ := bindS h
              refine x_fldN (j := 0) w753 rfl rfl (EL.e (el_listRg (e_var (R := rI) (x := size0) rfl rfl))) hx761 (T.cls 47 rfl) (T.noat 51 rfl) (by decide +kernel) (by decide) ?_
              intro H762 G763 w764 e765
              have h766 := Rep.mono _ e765 h755
              have h767 := Rep.mono _ e765 h756
              have h768 := Rep.mono _ e765 h757
              have h769 := Rep.mono _ e765 h758
              have h770 := Rep.mono _ e765 h759
              have w764 : Wo G H [l] G763 H762 [(l, cI (He.ga K "Order") ["_above", "_joins", "_meets", "_members"] [pd (rL (rL rB)) f727, pd (rL (rL (rO rI))) f738, pd (rL (rL (rO rI))) f749, pd (rL rI) f760])] := w764
              obtain ⟨f771, hx772, h⟩ := bindS h
              refine x_fldN (j := 0) w764 rfl rfl (e_call (ea_cons (e_var (R := (rL (rL rB))) (x := above_641) rfl h767) ea_nil)) (by first | (simp only [be1, bs1, ba1] at hx772 ⊢; exact hx772) | exact hx772) (T.cls 47 rfl) (T.noat 52 rfl) (by decide +kernel) (by decide) ?_
              intro H773 G774 w775 e776
              have h777 := Rep.mono _ e776 h766
              have h778 := Rep.mono _ e776 h767
              have h779 := Rep.mono _ e776 h768
              have h780 := Rep.mono _ e776 h769
              have h781 := Rep.mono _ e776 h770
              have w775 : Wo G H [l] G774 H773 [(l, cI (He.ga K "Order") ["_above", "_joins", "_meets", "_members", "_height"] [pd (rL (rL rB)) f727, pd (rL (rL (rO rI))) f738, pd (rL (rL (rO rI))) f749, pd (rL rI) f760, pd rI f771])] := w775
              refine x_next ?_
              have h : (m_Order.mk f727 f738 f749 f760 f771) = r := Option.some.inj h
              subst h
              exact k _ _ w775.f (w775.sub1 (i := 0) rfl)
def m_Order__require_b1 (self0 : m_Order) (x797 : Int) (s787 : Unit) : Option Unit :=
  (some ((decide (x797 < (0 : Int))) || (decide ((self0.f_members.length : Int) ≤ x797))) >>= fun b805 => bif b805 then none else some (()))
def m_Order__require (self0 : m_Order) (first0 : Int) (second0 : Int) : Option Unit :=
  (some ([first0, second0]) >>= fun xs782 => forS (m_Order__require_b1 self0) xs782 () >>= fun s787 => some ())
theorem sc_Order__require : FnScope ["self", "first", "second", "value"] ["self", "first", "second"] (defScope s_Order__require) := ⟨rfl, rfl, rfl, by decide +kernel, rfl, by decide +kernel, by decide +kernel⟩
theorem ok_Order__require (T : Tx K mg) : Fm P w K mg base CX0 1 "Order" "_require" ["self", "first", "second"] (PF (aC (r_Order K) (aC rI (aC rI aN))) rU (fun i => m_Order__require i.1 i.2.1 i.2.2.1)) := by
  obtain ⟨fd, F⟩ := T.def_ 12 rfl
  have nd := sc_Order__require.nd
  refine fm_mk F (fun _ _ _ _ _ _ us hl => match us, hl with | [_, _, _], _ => rfl) (F.ok sc_Order__require (fun vs H Q E h => ?_) (fun cdv A outer s H vs Q E hr h => ?_))
  · obtain ⟨G, ⟨self0, first0, second0, ⟨⟩⟩, r, e0, ⟨vself0, _, rfl, hself0, vfirst0, _, rfl, hfirst0, vsecond0, _, rfl, hsecond0, rfl⟩, h, k⟩ := h
    rfl
  · obtain ⟨G, ⟨self0, first0, second0, ⟨⟩⟩, r, e0, ⟨vself0, _, rfl, hself0, vfirst0, _, rfl, hfirst0, vsecond0, _, rfl, hsecond0, rfl⟩, h, k⟩ := h
    cases hfirst0
    cases hsecond0
    have w0 := Wo.start e0
    have h : m_Order__require self0 first0 second0 = some r := h
    unfold m_Order__require at h
    refine ⟨_, PSs.nox (pss_cons (ps_for PassesOwn.never rfl (pi_tup (pe_tup (pa_cons (pv 1) (pa_cons (pv 2) pa_nil)))) (pg_name (i := 3) nd rfl (Or.inl rfl)) (pss_cons (ps_if (PW.pt (pw_or (pt_cmpR op_lt (pv 3) pe_int (nomark _)) (pw_or1 (pt_cmpR op_ge (pv 3) (pe_callB (r := rLn K) call_len_seq (by rfl) (fr_len T) (by decide +kernel) (pa_cons (show L2.PE _ _ (tFld K _ _) from pe_fld (pv 0) (by rfl)) pa_nil)) (nomark _))))) (pss_cons ps_never pss_nil) pss_nil) pss_nil)) pss_nil), ?_⟩
    obtain ⟨xs782, hx783, h⟩ := bindS h
    obtain ⟨t785, hx786, h⟩ := bindS h
    refine x_forT w0 (e_tupH (eal_cons (e_var (R := rI) (x := first0) rfl rfl) (eal_cons (e_var (R := rI) (x := second0) rfl rfl) eal_nil))) hx783 (fun i G' H' σ' => ∃ s787 : Unit, ∃ u788 : Option V, Wo G H [] G' H' [] ∧ Evl.Ex G G' ∧ σ' = [some vself0, some (V.int first0), some (V.int second0), u788] ∧ forS (m_Order__require_b1 self0) (xs782.drop i) s787 = some t785) (fun _ _ _ _ ⟨_, _, w, _⟩ => w.ex) ?_ ?_ ?_
    · intro G' H' w' e'
      exact ⟨(), (none), w', e', rfl, hx786⟩
    · rintro G799 e800 i796 x797 v801 σ' G792 H795 hx798 e803 ⟨s787, u788, w793, e794, rfl, hm790⟩ r802
      obtain ⟨q791, hb789, hm790⟩ := forS_at hx798 hm790
      have h804 := Rep.mono _ e794 hself0
      refine g_name ?_
      cases r802
      unfold m_Order__require_b1 at hb789
      obtain ⟨b805, hx806, hb789⟩ := bindS hb789
      refine x_if w793 (et_orP (et_T (e_op rr_lt (e_var (R := rI) (x := x797) rfl rfl) e_int)) (et_T (e_op rr_ge (e_var (R := rI) (x := x797) rfl rfl) (e_cb rc_lenL (ea_cons (e_fld 3 (fun (o : m_Order) => o.f_members) (e_var (R := (r_Order K)) (x := self0) rfl (Rep.mono _ w793.ex h804)) (T.cls 47 rfl) (T.noat 51 rfl) (by decide +kernel) (fun _ => rfl)) ea_nil))))) hx806 ?_ ?_
      · intro hbb805 H807 w808
        subst hbb805
        have hb789 := bifT hb789
        cases (show none = some _ from hb789)
      · intro hbb805 H809 w810
        subst hbb805
        have hb789 := bifF hb789
        refine x_next ?_
        refine x_next ?_
        have hb789 : () = q791 := Option.some.inj hb789
        subst hb789
        exact ⟨G792, (e803.trans (Evl.Ex.refl _)), (), (some (V.int x797)), w810, e794, rfl, hm790⟩
    · rintro σ' G811 H814 e815 ⟨s787, u788, w812, e813, rfl, hm790⟩
      have hm790 := forS_end hm790
      subst hm790
      have h817 := Rep.mono _ e813 hself0
      refine x_next ?_
      have h : () = r := Option.some.inj h
      subst h
      exact k _ _ _ w812.upE rfl
def m__law_pot_b2 (x937 : Int) (s927 : ((List Int) × Int)) : Option ((List Int) × Int) :=
  ((some ((decide ((0 : Int) < s927.2)) || (x937 == (0 : Int))) >>= fun b940 => bif b940 then (modM s927.2 (100 : Int) >>= fun a959 => appM s927.1 a959 >>= fun pot_here_960 => some pot_here_960) else some s927.1) >>= fun s951 => (fdivM s927.2 (100 : Int) >>= fun rest_974 => some ((s951, rest_974))))
def m__law_pot_b1 (script0 : (List Int)) (x847 : Int) (s834 : (List Int)) : Option (List Int) :=
  ((atI script0 x847 >>= fun t850 => some (if t850 < 0 then -t850 else t850)) >>= fun rest_851 => (some (60 : Int) >>= fun many_855 => (((powM (10 : Int) (18 : Int) >>= fun t859 => some (decide (rest_851 < t859))) >>= fun b860 => bif b860 then ((((mulM (2 : Int) rest_851 >>= fun t894 => (((atI script0 x847 >>= fun t892 => some (decide (t892 < (0 : Int)))) >>= fun t893 => some (if t893 = true then (1 : Int) else 0)) >>= fun t895 => some (t894 + t895))) >>= fun t897 => ((mulM (2 : Int) x847 >>= fun t896 => some ((48271 : Int) + t896)) >>= fun t898 => mulM t897 t898)) >>= fun t899 => modM t899 (2147483647 : Int)) >>= fun rest_900 => (((mulM rest_900 rest_900 >>= fun t904 => (mulM rest_900 x847 >>= fun t905 => some (t904 + t905))) >>= fun t906 => modM t906 (2147483629 : Int)) >>= fun rest_907 => (some (4 : Int) >>= fun many_911 => some (many_911, rest_907)))) else some (many_855, rest_851)) >>= fun s884 => (some s884.1 >>= fun n920 => rngM 0 n920 >>= fun xs922 => forS (m__law_pot_b2) xs922 (s834, s884.2) >>= fun s927 => some (s927.1)))))
def m__law_pot (script0 : (List Int)) : Option (List Int) :=
  (some ([]) >>= fun pot_here_818 => (some (if (63 : Int) < (script0.length : Int) then (63 : Int) else (script0.length : Int)) >>= fun n827 => rngM 0 n827 >>= fun xs829 => forS (m__law_pot_b1 script0) xs829 pot_here_818 >>= fun s834 => (some (s834.reverse) >>= fun pot_here_990 => some s834.reverse)))
theorem sc__law_pot : FnScope ["_law_script", "_law_pot_here", "_law_place", "_law_rest", "_law_many", "_law_k"] ["_law_script"] (defScope s__law_pot) := ⟨rfl, rfl, rfl, by decide +kernel, rfl, by decide +kernel, by decide +kernel⟩
theorem ok__law_pot (T : Tx K mg) : Fk P w K mg base CX0 1 "_law_pot" ["_law_script"] (PL (aC (rScr K) aN) rI (fun i => m__law_pot i.1)) := by
  obtain ⟨fd, F⟩ := T.def_ 15 rfl
  have nd := sc__law_pot.nd
  refine fk_mk T.toTx (x := "_law_pot") (T.glo 20 rfl) F (fun _ _ _ _ _ _ us hl => match us, hl with | [_], _ => rfl) (F.ok sc__law_pot (fun vs H Q E h => ?_) (fun cdv A outer s H vs Q E hr h => ?_))
  · obtain ⟨G, ⟨script0, ⟨⟩⟩, r, e0, ⟨vscript0, _, rfl, hscript0, rfl⟩, h, k⟩ := h
    rfl
  · obtain ⟨G, ⟨script0, ⟨⟩⟩, r, e0, ⟨vscript0, _, rfl, hscript0, rfl⟩, h, k⟩ := h
    have w0 := Wo.start e0
    have h : m__law_pot script0 = some r := h
    unfold m__law_pot at h
    refine ⟨_, PSs.nox (pss_cons (ps_set (i := 1) nd rfl (Or.inl rfl) (pe_lst pa_nil)) (pss_cons (ps_for PassesOwn.never rfl (pi_range1 (by rfl) (fr_range T) (pa_cons (pe_callB (call_min2 rfl) (by rfl) (fr_min T) (by decide +kernel) (pa_cons (pe_callB (r := rLn K) call_len_seq (by rfl) (fr_len T) (by decide +kernel) (pa_cons (pv 0) pa_nil)) (pa_cons pe_int pa_nil))) pa_nil)) (pg_name (i := 2) nd rfl (Or.inl rfl)) (pss_cons (ps_set (i := 3) nd rfl (Or.inl rfl) (pe_callB call_abs (by rfl) (fr_abs T) (by decide +kernel) (pa_cons (pe_ix (r := rIxL K) ix_list (pv 0) (pv 2) (fun _ _ => rfl)) pa_nil))) (pss_cons (ps_set (i := 4) nd rfl (Or.inl rfl) pe_int) (Evl.pss_cut (ps_if (pt_cmpR op_lt (pv 3) (pe_op op_pow pe_int pe_int) (nomark _)) (pss_cons (ps_set (i := 3) nd rfl (Or.inl rfl) (pe_op op_mod (pe_callTy call_int1 (by rfl) (fr_int T) (by decide +kernel) (pa_cons (pe_op op_mul (pe_op op_add (pe_op op_mul pe_int (pv 3)) (pe_callTy call_int1 (by rfl) (fr_int T) (by decide +kernel) (pa_cons (pe_cmpR op_lt (pe_ix (r := rIxL K) ix_list (pv 0) (pv 2) (fun _ _ => rfl)) pe_int (nomark _)) pa_nil))) (pe_op op_add pe_int (pe_op op_mul pe_int (pv 2)))) pa_nil)) pe_int)) (pss_cons (ps_set (i := 3) nd rfl (Or.inl rfl) (pe_op op_mod (pe_callTy call_int1 (by rfl) (fr_int T) (by decide +kernel) (pa_cons (pe_op op_add (pe_op op_mul (pv 3) (pv 3)) (pe_op op_mul (pv 3) (pv 2))) pa_nil)) pe_int)) (pss_cons (ps_set (i := 4) nd rfl (Or.inl rfl) pe_int) pss_nil))) pss_nil) (pss_cons (ps_for PassesOwn.never rfl (pi_range1 (by rfl) (fr_range T) (pa_cons (pv 4) pa_nil)) (pg_name (i := 5) nd rfl (Or.inl rfl)) (Evl.pss_cut (ps_if (PW.pt (pw_or (pt_cmpR op_gt (pv 3) pe_int (nomark _)) (pw_or1 (pt_cmpR op_eq (pv 5) pe_int (nomark _))))) (pss_cons (ps_expr (pe_bm PySem.F.plainAttrs_list PySem.F.slot_list_append PySem.F.type_list_append mt_append (pv 1) (pa_cons (pe_op op_mod (pe_callTy call_int1 (by rfl) (fr_int T) (by decide +kernel) (pa_cons (pv 3) pa_nil)) pe_int) pa_nil))) pss_nil) pss_nil) (pss_cons (ps_set (i := 3) nd rfl (Or.inl rfl) (pe_op op_fdiv (pv 3) pe_int)) pss_nil))) pss_nil))))) (pss_cons (ps_expr (pe_bm0 PySem.F.plainAttrs_list PySem.F.slot_list_reverse PySem.F.type_list_reverse mt_reverse (pv 1))) (pss_cons (ps_ret (pv 1)) pss_nil)))), ?_⟩
    obtain ⟨pot_here_818, hx819, h⟩ := bindS h
    refine x_setL w0 (el_disp (R := rI) eal_nil) hx819 ?_
    intro p822 H820 G823 n824 w821 e825
    have h826 := Rep.mono _ e825 hscript0
    obtain ⟨n827, hx828, h⟩ := bindS h
    obtain ⟨xs829, hx830, h⟩ := bindS h
    obtain ⟨t832, hx833, h⟩ := bindS h
    refine x_forR w821 (ea_cons (Sim.E.is (e_cb rc_min2 (ea_cons (e_cb rc_lenScr (ea_cons (e_var (R := (rScr K)) (x := script0) rfl h826) ea_nil)) (ea_cons e_int ea_nil))) hx828) ea_nil) rfl hx830 (fun i G' H' σ' => ∃ s834 : (List Int), ∃ u835 : Option V, ∃ u836 : Option V, ∃ u837 : Option V, ∃ u838 : Option V, Wo G H [] G' H' [(p822, cL rI s834)] ∧ Evl.Ex G823 G' ∧ σ' = [some vscript0, some (V.ref p822), u837, u838, u836, u835] ∧ forS (m__law_pot_b1 script0) (xs829.drop i) s834 = some t832) ?_ ?_ ?_
    · intro G' H' w' e'
      exact ⟨pot_here_818, (none), (none), (none), (none), w', e', rfl, hx833⟩
    · rintro i846 x847 σ' G842 H845 hx848 ⟨s834, u835, u836, u837, u838, w843, e844, rfl, hm840⟩
      obtain ⟨q841, hb839, hm840⟩ := forS_at hx848 hm840
      have h849 := Rep.mono _ e844 h826
      refine g_name ?_
      unfold m__law_pot_b1 at hb839
      obtain ⟨rest_851, hx852, hb839⟩ := bindS hb839
      refine x_setI w843 (e_cb rc_abs (ea_cons (e_op rr_ixScr (e_var (R := (rScr K)) (x := script0) rfl h849) (e_var (R := rI) (x := x847) rfl rfl)) ea_nil)) (by first | (simp only [be1, bs1, ba1] at hx852 ⊢; exact hx852) | exact hx852) ?_
      intro H853 w854
      obtain ⟨many_855, hx856, hb839⟩ := bindS hb839
      refine x_setI w854 e_int hx856 ?_
      intro H857 w858
      obtain ⟨s884, hx885, hb839⟩ := bindS hb839
      refine o_cut (fun σ' H' => ∃ G' : Hp, Wo G H [] G' H' [(p822, cL rI s834)] ∧ Evl.Ex G842 G' ∧ σ' = [some vscript0, some (V.ref p822), some (V.int x847), some (V.int s884.2), some (V.int s884.1), u835]) ?_ ?_
      · obtain ⟨b860, hx889, hx885⟩ := bindS hx885
        refine x_if w858 (et_T (e_op rr_lt (e_var (R := rI) (x := rest_851) rfl rfl) (e_op rr_pow e_int e_int))) (by first | (simp only [be1, bs1, ba1] at hx889 ⊢; exact hx889) | exact hx889) ?_ ?_
        · intro hbb860 H890 w891
          subst hbb860
          have hx885 := bifT hx885
          obtain ⟨rest_900, hx901, hx885⟩ := bindS hx885
          refine x_setI w891 (e_op rr_mod (e_cb rc_intI (ea_cons (e_op rr_mul (e_op rr_add (e_op rr_mul e_int (e_var (R := rI) (x := rest_851) rfl rfl)) (e_cb rc_intB (ea_cons (e_op rr_lt (e_op rr_ixScr (e_var (R := (rScr K)) (x := script0) rfl h849) (e_var (R := rI) (x := x847) rfl rfl)) e_int) ea_nil))) (e_op rr_add e_int (e_op rr_mul e_int (e_var (R := rI) (x := x847) rfl rfl)))) ea_nil)) e_int) (by first | (simp only [be1, bs1, ba1] at hx901 ⊢; exact hx901) | exact hx901) ?_
          intro H902 w903
          obtain ⟨rest_907, hx908, hx885⟩ := bindS hx885
          refine x_setI w903 (e_op rr_mod (e_cb rc_intI (ea_cons (e_op rr_add (e_op rr_mul (e_var (R := rI) (x := rest_900) rfl rfl) (e_var (R := rI) (x := rest_900) rfl rfl)) (e_op rr_mul (e_var (R := rI) (x := rest_900) rfl rfl) (e_var (R := rI) (x := x847) rfl rfl))) ea_nil)) e_int) (by first | (simp only [be1, bs1, ba1] at hx908 ⊢; exact hx908) | exact hx908) ?_
          intro H909 w910
          obtain ⟨many_911, hx912, hx885⟩ := bindS hx885
          refine x_setI w910 e_int hx912 ?_
          intro H913 w914
          refine x_next ?_
          have hx885 : (many_911, rest_907) = s884 := Option.some.inj hx885
          subst hx885
          exact ⟨G842, w914, (Evl.Ex.refl _), rfl⟩
        · intro hbb860 H915 w916
          subst hbb860
          have hx885 := bifF hx885
          refine x_next ?_
          have hx885 : (many_855, rest_851) = s884 := Option.some.inj hx885
          subst hx885
          exact ⟨G842, w916, (Evl.Ex.refl _), rfl⟩
      · rintro σ' H919 ⟨G917, w887, e886, rfl⟩
        have h918 := Rep.mono _ e886 h849
        obtain ⟨n920, hx921, hb839⟩ := bindS hb839
        obtain ⟨xs922, hx923, hb839⟩ := bindS hb839
        obtain ⟨t925, hx926, hb839⟩ := bindS hb839
        refine x_forR w887 (ea_cons (Sim.E.is (e_var (R := rI) (x := s884.1) rfl rfl) hx921) ea_nil) rfl hx923 (fun i G' H' σ' => ∃ s927 : ((List Int) × Int), ∃ u928 : Option V, Wo G H [] G' H' [(p822, cL rI s927.1)] ∧ Evl.Ex G917 G' ∧ σ' = [some vscript0, some (V.ref p822), some (V.int x847), some (V.int s927.2), some (V.int s884.1), u928] ∧ forS (m__law_pot_b2) (xs922.drop i) s927 = some t925) ?_ ?_ ?_
        · intro G' H' w' e'
          exact ⟨(s834, s884.2), (u835), w', e', rfl, hx926⟩
        · rintro i936 x937 σ' G932 H935 hx938 ⟨s927, u928, w933, e934, rfl, hm930⟩
          obtain ⟨q931, hb929, hm930⟩ := forS_at hx938 hm930
          have h939 := Rep.mono _ e934 h918
          refine g_name ?_
          unfold m__law_pot_b2 at hb929
          obtain ⟨s951, hx952, hb929⟩ := bindS hb929
          refine o_cut (fun σ' H' => ∃ G' : Hp, Wo G H [] G' H' [(p822, cL rI s951)] ∧ Evl.Ex G932 G' ∧ σ' = [some vscript0, some (V.ref p822), some (V.int x847), some (V.int s927.2), some (V.int s884.1), some (V.int x937)]) ?_ ?_
          · obtain ⟨b940, hx956, hx952⟩ := bindS hx952
            refine x_if w933 (et_orP (et_T (e_op rr_gt (e_var (R := rI) (x := s927.2) rfl rfl) e_int)) (et_T (e_op rr_eqI (e_var (R := rI) (x := x937) rfl rfl) e_int))) hx956 ?_ ?_
            · intro hbb940 H957 w958
              subst hbb940
              have hx952 := bifT hx952
              obtain ⟨a959, hx961, hx952⟩ := bindS hx952
              obtain ⟨pot_here_960, hx962, hx952⟩ := bindS hx952
              obtain ⟨hs963, rfl⟩ := appM_ok hx962
              refine x_app (j := 0) w958 rfl hs963 rfl (e_op rr_mod (e_cb rc_intI (ea_cons (e_var (R := rI) (x := s927.2) rfl rfl) ea_nil)) e_int) (by first | (simp only [be1, bs1, ba1] at hx961 ⊢; exact hx961) | exact hx961) ?_
              intro H964 G965 w966 e967
              have h968 := Rep.mono _ e967 h939
              have w966 : Wo G H [] G965 H964 [(p822, cL rI (s927.1 ++ [a959]))] := w966
              refine x_next ?_
              have hx952 : (s927.1 ++ [a959]) = s951 := Option.some.inj hx952
              subst hx952
              exact ⟨G965, w966, e967, rfl⟩
            · intro hbb940 H969 w970
              subst hbb940
              have hx952 := bifF hx952
              refine x_next ?_
              have hx952 : s927.1 = s951 := Option.some.inj hx952
              subst hx952
              exact ⟨G932, w970, (Evl.Ex.refl _), rfl⟩
          · rintro σ' H973 ⟨G971, w954, e953, rfl⟩
            have h972 := Rep.mono _ e953 h939
            obtain ⟨rest_974, hx975, hb929⟩ := bindS hb929
            refine x_setI w954 (e_op rr_fdiv (e_var (R := rI) (x := s927.2) rfl rfl) e_int) (by first | (simp only [be1, bs1, ba1] at hx975 ⊢; exact hx975) | exact hx975) ?_
            intro H976 w977
            refine x_next ?_
            have hb929 : (s951, rest_974) = q931 := Option.some.inj hb929
            subst hb929
            exact ⟨G971, (s951, rest_974), (some (V.int x937)), w977, (e934.trans e953), rfl, hm930⟩
        · rintro σ' G978 H981 ⟨s927, u928, w979, e980, rfl, hm930⟩
          have hm930 := forS_end hm930
          subst hm930
          have h983 := Rep.mono _ e980 h918
          refine x_next ?_
          have hb839 : s927.1 = q841 := Option.some.inj hb839
          subst hb839
          exact ⟨G978, s927.1, (u928), (some (V.int s884.1)), (some (V.int x847)), (some (V.int s927.2)), w979, ((e844.trans e886).trans e980), rfl, hm840⟩
    · rintro σ' G984 H987 ⟨s834, u835, u836, u837, u838, w985, e986, rfl, hm840⟩
      have hm840 := forS_end hm840
      subst hm840
      have h989 := Rep.mono _ e986 h826
      refine x_drop ?_
      obtain ⟨pot_here_990, hx991, h⟩ := bindS h
      cases hx991
      refine o_bm0 (j := 0) w985 rfl rfl (c_rev (j := 0) w985 rfl ?_)
      intro H992 w993
      have w993 : Wo G H [] G984 H992 [(p822, cL rI s834.reverse)] := w993
      have h : s834.reverse = r := Option.some.inj h
      subst h
      refine x_retO (o_var rfl ?_)
      exact k _ _ _ n824 w993.upE (w993.sub1 (i := 0) rfl)
def m__law_draw (pot_here0 : (List Int)) (many0 : Int) : Option (Int × (List Int)) :=
  (some ((pot_here0.length : Int) == (0 : Int)) >>= fun b994 => bif b994 then (some (0 : Int) >>= fun a998 => some (a998, pot_here0)) else (popM pot_here0 >>= fun x1002 => (some many0 >>= fun x1009 => (modM x1002.1 x1009 >>= fun x1013 => some (x1013, x1002.2)))))
theorem sc__law_draw : FnScope ["_law_pot_here", "_law_many"] ["_law_pot_here", "_law_many"] (defScope s__law_draw) := ⟨rfl, rfl, rfl, by decide +kernel, rfl, by decide +kernel, by decide +kernel⟩
theorem ok__law_draw (T : Tx K mg) : Fk P w K mg base CX0 1 "_law_draw" ["_law_pot_here", "_law_many"] (P1 (aC rI aN) rI rI (fun ys i => m__law_draw ys i.1)) := by
  obtain ⟨fd, F⟩ := T.def_ 16 rfl
  have nd := sc__law_draw.nd
  refine fk_mk T.toTx (x := "_law_draw") (T.glo 21 rfl) F (fun _ _ _ _ _ _ us hl => match us, hl with | [_, _], _ => rfl) (F.ok sc__law_draw (fun vs H Q E h => ?_) (fun cdv A outer s H vs Q E hr h => ?_))
  · obtain ⟨G, ⟨l, ⟨many0, ⟨⟩⟩⟩, pot_here0, r, k', ⟨_, _, rfl, rfl, ⟨vmany0, _, rfl, hmany0, rfl⟩⟩, wd, h, k⟩ := h
    rfl
  · obtain ⟨G, ⟨l, ⟨many0, ⟨⟩⟩⟩, pot_here0, r, k', ⟨_, _, rfl, rfl, ⟨vmany0, _, rfl, hmany0, rfl⟩⟩, wd, h, k⟩ := h
    cases hmany0
    have w0 : Wo G H [l] G H _ := Wo.startC wd
    have h : m__law_draw pot_here0 many0 = some (r, k') := h
    unfold m__law_draw at h
    refine ⟨_, PSs.nox (pss_cons (ps_if (pt_cmpR op_eq (pe_callB (r := rLn K) call_len_seq (by rfl) (fr_len T) (by decide +kernel) (pa_cons (pv 0) pa_nil)) pe_int (nomark _)) (pss_cons (ps_ret pe_int) pss_nil) pss_nil) (pss_cons (ps_ret (pe_op op_mod (pe_callTy call_int1 (by rfl) (fr_int T) (by decide +kernel) (pa_cons (pe_bm0 PySem.F.plainAttrs_list PySem.F.slot_list_pop PySem.F.type_list_pop mt_pop (pv 0)) pa_nil)) (pv 1))) pss_nil)), ?_⟩
    obtain ⟨b994, hx995, h⟩ := bindS h
    refine x_if w0 (et_T (e_op rr_eqI (e_cb rc_lenL (ea_cons (e_var (R := (rL rI)) (x := pot_here0) rfl (w0.rlAt (i := 0) rfl)) ea_nil)) e_int)) hx995 ?_ ?_
    · intro hbb994 H996 w997
      subst hbb994
      have h := bifT h
      obtain ⟨a998, hx999, h⟩ := bindS h
      obtain ⟨h8, h9⟩ : a998 = r ∧ pot_here0 = k' := Prod.mk.inj (Option.some.inj h)
      subst h8
      subst h9
      exact x_ret w997 e_int hx999 (fun v9 H9 G9 w9 e9 r9 => k v9 H9 G9 w9.f (w9.sub1 (i := 0) rfl) r9)
    · intro hbb994 H1000 w1001
      subst hbb994
      have h := bifF h
      refine x_next ?_
      refine x_retO ?_
      refine o_op ?_
      refine o_cb ?_
      refine o_cons ?_
      obtain ⟨x1002, hx1003, h⟩ := bindS h
      refine o_bm0 (j := 0) w1001 rfl rfl (c_pop (j := 0) w1001 rfl hx1003 ?_)
      intro v1004 H1005 w1006 r1007
      cases r1007
      have w1006 : Wo G H [l] G H1005 [(l, cL rI x1002.2)] := w1006
      refine o_nil ?_
      refine Or.inl ⟨_, rfl, ?_⟩
      obtain ⟨x1009, hx1010, h⟩ := bindS h
      refine c_i w1006 (e_var (R := rI) (x := many0) rfl rfl) hx1010 ?_
      intro H1011 w1012
      obtain ⟨x1013, hx1014, h⟩ := bindS h
      refine c_rr rr_mod w1012 rfl rfl hx1014 ?_
      intro u1015 H1016 G1017 w1018 e1019 r1020
      cases r1020
      obtain ⟨h8, h9⟩ : x1013 = r ∧ x1002.2 = k' := Prod.mk.inj (Option.some.inj h)
      subst h8
      subst h9
      exact k _ _ _ w1018.f (w1018.sub1 (i := 0) rfl) rfl
def m__law_masks_b2 (x1099 : (Int × (List Int))) (x1132 : Int) (s1122 : (List Int)) : Option (List Int) :=
  ((some (!s1122.any fun z => z == (Builtin.bitAnd x1132 x1099.1)) >>= fun b1140 => bif b1140 then (some (Builtin.bitAnd x1132 x1099.1) >>= fun a1159 => appM s1122 a1159 >>= fun more_1160 => some more_1160) else some s1122) >>= fun s1151 => some (s1151))
def m__law_masks_b1 (most0 : Int) (x1092 : Int) (s1077 : ((List Int) × (List Int))) : Option ((List Int) × (List Int)) :=
  (some (32 : Int) >>= fun x1094 => (m__law_draw s1077.2 x1094 >>= fun x1099 => (some s1077.1 >>= fun more_1108 => (some s1077.1 >>= fun xs1117 => forS (m__law_masks_b2 x1099) xs1117 more_1108 >>= fun s1122 => ((some (decide ((s1122.length : Int) ≤ most0)) >>= fun b1186 => bif b1186 then (some s1122 >>= fun masks_here_1207 => some masks_here_1207) else some s1077.1) >>= fun s1197 => some ((s1197, x1099.2)))))))
def m__law_masks_b3 (x1266 : Int) (s1256 : ((List Int) × ((List Int) × (List Int)))) : Option ((List Int) × ((List Int) × (List Int))) :=
  (some (s1256.2.2.length : Int) >>= fun x1268 => (m__law_draw s1256.2.1 x1268 >>= fun x1273 => (popAtM s1256.2.2 x1273.1 >>= fun x1282 => (appM s1256.1 x1282.1 >>= fun masks_here_1289 => some ((masks_here_1289, (x1273.2, x1282.2)))))))
def m__law_masks (pot_here0 : (List Int)) (most0 : Int) : Option ((List Int) × (List Int)) :=
  (some ([(31 : Int)]) >>= fun masks_here_1021 => (some (6 : Int) >>= fun x1029 => (m__law_draw pot_here0 x1029 >>= fun x1034 => (some (1 : Int) >>= fun x1044 => (some (x1034.1 + x1044) >>= fun x1048 => (some (6 : Int) >>= fun x1058 => (modM x1048 x1058 >>= fun x1062 => (rngM 0 x1062 >>= fun xs1072 => forS (m__law_masks_b1 most0) xs1072 (masks_here_1021, x1034.2) >>= fun s1077 => ((if s1077.1.length < 64 then some (srtI s1077.1) else none) >>= fun rest_1227 => (some (rest_1227.length : Int) >>= fun size_1236 => (some ([]) >>= fun masks_here_1240 => (some size_1236 >>= fun n1249 => rngM 0 n1249 >>= fun xs1251 => forS (m__law_masks_b3) xs1251 (masks_here_1240, (s1077.2, rest_1227)) >>= fun s1256 => some (s1256.1, s1256.2.1)))))))))))))
theorem sc__law_masks : FnScope ["_law_pot_here", "_law_most", "_law_masks_here", "_law_k", "_law_rest", "_law_size", "_law_mask", "_law_more", "_law_old"] ["_law_pot_here", "_law_most"] (defScope s__law_masks) := ⟨rfl, rfl, rfl, by decide +kernel, rfl, by decide +kernel, by decide +kernel⟩
theorem ok__law_masks (T : Tx K mg) : Fk P w K mg base CX0 2 "_law_masks" ["_law_pot_here", "_law_most"] (P1L (aC rI aN) rI rI (fun ys i => m__law_masks ys i.1)) := by
  obtain ⟨fd__law_draw, G__law_draw, b__law_draw, k__law_draw, g__law_draw⟩ := ok__law_draw (w := w) (base := base) T
  obtain ⟨fd, F⟩ := T.def_ 18 rfl
  have nd := sc__law_masks.nd
  refine fk_mk T.toTx (x := "_law_masks") (T.glo 23 rfl) F (fun _ _ _ _ _ _ us hl => match us, hl with | [_, _], _ => rfl) (F.ok sc__law_masks (fun vs H Q E h => ?_) (fun cdv A outer s H vs Q E hr h => ?_))
  · obtain ⟨G, ⟨l, ⟨most0, ⟨⟩⟩⟩, pot_here0, r, k', ⟨_, _, rfl, rfl, ⟨vmost0, _, rfl, hmost0, rfl⟩⟩, wd, h, k⟩ := h
    rfl
  · obtain ⟨G, ⟨l, ⟨most0, ⟨⟩⟩⟩, pot_here0, r, k', ⟨_, _, rfl, rfl, ⟨vmost0, _, rfl, hmost0, rfl⟩⟩, wd, h, k⟩ := h
    cases hmost0
    have w0 : Wo G H [l] G H _ := Wo.startC wd
    have h : m__law_masks pot_here0 most0 = some (r, k') := h
    unfold m__law_masks at h
    refine ⟨_, PSs.nox (pss_cons (ps_set (i := 2) nd rfl (Or.inl rfl) (pe_lst (pa_cons pe_int pa_nil))) (pss_cons (ps_for PassesOwn.never rfl (pi_range1 (by rfl) (fr_range T) (pa_cons (pe_op op_mod (pe_callTy call_int1 (by rfl) (fr_int T) (by decide +kernel) (pa_cons (pe_op op_add (pe_call G__law_draw (hr.mono (by decide)) rfl g__law_draw k__law_draw b__law_draw .nil pass0 (pa_cons (pv 0) (pa_cons pe_int pa_nil))) pe_int) pa_nil)) pe_int) pa_nil)) (pg_name (i := 3) nd rfl (Or.inl rfl)) (pss_cons (ps_set (i := 6) nd rfl (Or.inl rfl) (pe_call G__law_draw (hr.mono (by decide)) rfl g__law_draw k__law_draw b__law_draw .nil pass0 (pa_cons (pv 0) (pa_cons pe_int pa_nil)))) (pss_cons (ps_set (i := 7) nd rfl (Or.inl rfl) (pe_callTy (r := rLs K) call_list_of (by rfl) (fr_list T) (by decide +kernel) (pa_cons (pv 2) pa_nil))) (pss_cons (ps_for PassesOwn.never rfl (pi_list (pv 2)) (pg_name (i := 8) nd rfl (Or.inl rfl)) (Evl.pss_cut (ps_if (pt_cmpR (r := rIn K true) op_notIn_seq (pe_op op_and (pv 8) (pv 6)) (pv 7) (by rfl)) (pss_cons (ps_expr (pe_bm PySem.F.plainAttrs_list PySem.F.slot_list_append PySem.F.type_list_append mt_append (pv 7) (pa_cons (pe_op op_and (pv 8) (pv 6)) pa_nil))) pss_nil) pss_nil) pss_nil)) (Evl.pss_cut (ps_if (pt_cmpR op_le (pe_callB (r := rLn K) call_len_seq (by rfl) (fr_len T) (by decide +kernel) (pa_cons (pv 7) pa_nil)) (pv 1) (nomark _)) (pss_cons (ps_set (i := 2) nd rfl (Or.inl rfl) (pe_callTy (r := rLs K) call_list_of (by rfl) (fr_list T) (by decide +kernel) (pa_cons (pv 7) pa_nil))) pss_nil) pss_nil) pss_nil))))) (pss_cons (ps_set (i := 4) nd rfl (Or.inl rfl) (pe_callB (r := rSorted K) cr_sorted (by rfl) (fr_sorted T) (by decide +kernel) (pa_cons (pv 2) pa_nil))) (pss_cons (ps_set (i := 5) nd rfl (Or.inl rfl) (pe_callB (r := rLn K) call_len_seq (by rfl) (fr_len T) (by decide +kernel) (pa_cons (pv 4) pa_nil))) (pss_cons (ps_set (i := 2) nd rfl (Or.inl rfl) (pe_lst pa_nil)) (pss_cons (ps_for PassesOwn.never rfl (pi_range1 (by rfl) (fr_range T) (pa_cons (pv 5) pa_nil)) (pg_name (i := 3) nd rfl (Or.inl rfl)) (pss_cons (ps_expr (pe_bm PySem.F.plainAttrs_list PySem.F.slot_list_append PySem.F.type_list_append mt_append (pv 2) (pa_cons (pe_bm PySem.F.plainAttrs_list PySem.F.slot_list_pop PySem.F.type_list_pop mt_popAt (pv 4) (pa_cons (pe_call G__law_draw (hr.mono (by decide)) rfl g__law_draw k__law_draw b__law_draw .nil pass0 (pa_cons (pv 0) (pa_cons (pe_callB (r := rLn K) call_len_seq (by rfl) (fr_len T) (by decide +kernel) (pa_cons (pv 4) pa_nil)) pa_nil))) pa_nil)) pa_nil))) pss_nil)) (pss_cons (ps_ret (pv 2)) pss_nil))))))), ?_⟩
    obtain ⟨masks_here_1021, hx1022, h⟩ := bindS h
    refine x_set w0 (EL.e (el_disp (eal_cons e_int eal_nil))) hx1022 ?_
    intro v1025 H1023 G1026 w1024 e1027 h1028
    refine o_forR ?_
    refine o_cons ?_
    refine o_op ?_
    refine o_cb ?_
    refine o_cons ?_
    refine o_op ?_
    refine o_call ?_
    refine o_cons ?_
    refine o_var rfl ?_
    refine o_cons ?_
    obtain ⟨x1029, hx1030, h⟩ := bindS h
    refine c_i w1024 e_int hx1030 ?_
    intro H1031 w1032
    refine o_nil ?_
    obtain ⟨x1034, hx1035, h⟩ := bindS h
    refine c_p1 (i := 0) (j := (x1029, ())) w1032 rfl ⟨_, _, rfl, rfl, rfl⟩ hx1035 ?_
    intro u1036 H1037 G1038 w1039 e1040 r1041
    have h1042 := Rep.mono _ e1040 h1028
    cases r1041
    have w1039 : Wo G H [l] G1038 H1037 [(l, cL rI x1034.2)] := w1039
    obtain ⟨x1044, hx1045, h⟩ := bindS h
    refine c_i w1039 e_int hx1045 ?_
    intro H1046 w1047
    obtain ⟨x1048, hx1049, h⟩ := bindS h
    refine c_rr rr_add w1047 rfl rfl hx1049 ?_
    intro u1050 H1051 G1052 w1053 e1054 r1055
    have h1056 := Rep.mono _ e1054 h1042
    cases r1055
    refine o_nil ?_
    refine Or.inl ⟨_, rfl, ?_⟩
    obtain ⟨x1058, hx1059, h⟩ := bindS h
    refine c_i w1053 e_int hx1059 ?_
    intro H1060 w1061
    obtain ⟨x1062, hx1063, h⟩ := bindS h
    refine c_rr rr_mod w1061 rfl rfl hx1063 ?_
    intro u1064 H1065 G1066 w1067 e1068 r1069
    have h1070 := Rep.mono _ e1068 h1056
    cases r1069
    refine o_nil ?_
    obtain ⟨xs1072, hx1073, h⟩ := bindS h
    obtain ⟨t1075, hx1076, h⟩ := bindS h
    refine v_forR w1067 hx1073 (fun i G' H' σ' => ∃ s1077 : ((List Int) × (List Int)), ∃ v1078 : V, ∃ u1080 : Option V, ∃ u1081 : Option V, ∃ u1082 : Option V, ∃ u1083 : Option V, Wo G H [l] G' H' [(l, cL rI s1077.2)] ∧ Evl.Ex G1066 G' ∧ σ' = [some (V.ref l), some (V.int most0), some v1078, u1080, none, none, u1081, u1082, u1083] ∧ (rL rI).r G' v1078 s1077.1 ∧ forS (m__law_masks_b1 most0) (xs1072.drop i) s1077 = some t1075) ?_ ?_ ?_
    · exact ⟨(masks_here_1021, x1034.2), v1025, (none), (none), (none), (none), w1067, (Evl.Ex.refl _), rfl, (Rep.mono _ (Evl.Ex.refl _) h1070), hx1076⟩
    · rintro i1091 x1092 σ' G1087 H1090 hx1093 ⟨s1077, v1078, u1080, u1081, u1082, u1083, w1088, e1089, rfl, h1079, hm1085⟩
      obtain ⟨q1086, hb1084, hm1085⟩ := forS_at hx1093 hm1085
      refine g_name ?_
      unfold m__law_masks_b1 at hb1084
      refine x_setO ?_
      refine o_call ?_
      refine o_cons ?_
      refine o_var rfl ?_
      refine o_cons ?_
      obtain ⟨x1094, hx1095, hb1084⟩ := bindS hb1084
      refine c_i w1088 e_int hx1095 ?_
      intro H1096 w1097
      refine o_nil ?_
      obtain ⟨x1099, hx1100, hb1084⟩ := bindS hb1084
      refine c_p1 (i := 0) (j := (x1094, ())) w1097 rfl ⟨_, _, rfl, rfl, rfl⟩ hx1100 ?_
      intro u1101 H1102 G1103 w1104 e1105 r1106
      have h1107 := Rep.mono _ e1105 h1079
      cases r1106
      have w1104 : Wo G H [l] G1103 H1102 [(l, cL rI x1099.2)] := w1104
      obtain ⟨more_1108, hx1109, hb1084⟩ := bindS hb1084
      refine x_setL w1104 (el_cb rc_listL (ea_cons (e_var (R := (rL rI)) (x := s1077.1) rfl h1107) ea_nil)) hx1109 ?_
      intro p1112 H1110 G1113 n1114 w1111 e1115
      have h1116 := Rep.mono _ e1115 h1107
      obtain ⟨xs1117, hx1118, hb1084⟩ := bindS hb1084
      obtain ⟨t1120, hx1121, hb1084⟩ := bindS hb1084
      refine x_forL w1111 (e_var (R := (rL rI)) (x := s1077.1) rfl h1116) hx1118 (fun i G' H' σ' => ∃ s1122 : (List Int), ∃ u1123 : Option V, Wo G H [l] G' H' [(p1112, cL rI s1122), (l, cL rI x1099.2)] ∧ Evl.Ex G1113 G' ∧ σ' = [some (V.ref l), some (V.int most0), some v1078, some (V.int x1092), none, none, some (V.int x1099.1), some (V.ref p1112), u1123] ∧ forS (m__law_masks_b2 x1099) (xs1117.drop i) s1122 = some t1120) (fun _ _ _ _ ⟨_, _, w, _⟩ => w.ex) ?_ ?_ ?_
      · intro G' H' w' e'
        exact ⟨more_1108, (u1083), w', e', rfl, hx1121⟩
      · rintro G1134 e1135 i1131 x1132 v1136 σ' G1127 H1130 hx1133 e1138 ⟨s1122, u1123, w1128, e1129, rfl, hm1125⟩ r1137
        obtain ⟨q1126, hb1124, hm1125⟩ := forS_at hx1133 hm1125
        have h1139 := Rep.mono _ e1129 h1116
        refine g_name ?_
        cases r1137
        unfold m__law_masks_b2 at hb1124
        obtain ⟨s1151, hx1152, hb1124⟩ := bindS hb1124
        refine o_cut (fun σ' H' => ∃ G' : Hp, Wo G H [l] G' H' [(p1112, cL rI s1151), (l, cL rI x1099.2)] ∧ Evl.Ex G1127 G' ∧ σ' = [some (V.ref l), some (V.int most0), some v1078, some (V.int x1092), none, none, some (V.int x1099.1), some (V.ref p1112), some (V.int x1132)]) ?_ ?_
        · obtain ⟨b1140, hx1156, hx1152⟩ := bindS hx1152
          refine x_if w1128 (et_T (e_op (rr_ninL flI) (e_op rr_and (e_var (R := rI) (x := x1132) rfl rfl) (e_var (R := rI) (x := x1099.1) rfl rfl)) (e_var (R := (rL rI)) (x := s1122) rfl (w1128.rlAt (i := 0) rfl)))) hx1156 ?_ ?_
          · intro hbb1140 H1157 w1158
            subst hbb1140
            have hx1152 := bifT hx1152
            obtain ⟨a1159, hx1161, hx1152⟩ := bindS hx1152
            obtain ⟨more_1160, hx1162, hx1152⟩ := bindS hx1152
            obtain ⟨hs1163, rfl⟩ := appM_ok hx1162
            refine x_app (j := 0) w1158 rfl hs1163 rfl (e_op rr_and (e_var (R := rI) (x := x1132) rfl rfl) (e_var (R := rI) (x := x1099.1) rfl rfl)) hx1161 ?_
            intro H1164 G1165 w1166 e1167
            have h1168 := Rep.mono _ e1167 h1139
            have w1166 : Wo G H [l] G1165 H1164 [(p1112, cL rI (s1122 ++ [a1159])), (l, cL rI x1099.2)] := w1166
            refine x_next ?_
            have hx1152 : (s1122 ++ [a1159]) = s1151 := Option.some.inj hx1152
            subst hx1152
            exact ⟨G1165, w1166, e1167, rfl⟩
          · intro hbb1140 H1169 w1170
            subst hbb1140
            have hx1152 := bifF hx1152
            refine x_next ?_
            have hx1152 : s1122 = s1151 := Option.some.inj hx1152
            subst hx1152
            exact ⟨G1127, w1170, (Evl.Ex.refl _), rfl⟩
        · rintro σ' H1173 ⟨G1171, w1154, e1153, rfl⟩
          have h1172 := Rep.mono _ e1153 h1139
          refine x_next ?_
          have hb1124 : s1151 = q1126 := Option.some.inj hb1124
          subst hb1124
          exact ⟨G1171, (e1138.trans e1153), s1151, (some (V.int x1132)), w1154, (e1129.trans e1153), rfl, hm1125⟩
      · rintro σ' G1174 H1177 e1178 ⟨s1122, u1123, w1175, e1176, rfl, hm1125⟩
        have hm1125 := forS_end hm1125
        subst hm1125
        have h1180 := Rep.mono _ e1176 h1116
        obtain ⟨G1181, w1182, e1183, h1184⟩ := w1175.freezeAt (i := 0) rfl n1114
        have h1185 := Rep.mono _ e1183 h1180
        have w1182 : Wo G H [l] G1181 H1177 [(l, cL rI x1099.2)] := w1182
        obtain ⟨s1197, hx1198, hb1084⟩ := bindS hb1084
        refine o_cut (fun σ' H' => ∃ v1199 : V, ∃ G' : Hp, Wo G H [l] G' H' [(l, cL rI x1099.2)] ∧ Evl.Ex G1181 G' ∧ σ' = [some (V.ref l), some (V.int most0), some v1199, some (V.int x1092), none, none, some (V.int x1099.1), some (V.ref p1112), u1123] ∧ (rL rI).r G' v1199 s1197) ?_ ?_
        · obtain ⟨b1186, hx1204, hx1198⟩ := bindS hx1198
          refine x_if w1182 (et_T (e_op rr_le (e_cb rc_lenL (ea_cons (e_var (R := (rL rI)) (x := s1122) rfl (Rep.mono _ w1182.ex h1184)) ea_nil)) (e_var (R := rI) (x := most0) rfl rfl))) hx1204 ?_ ?_
          · intro hbb1186 H1205 w1206
            subst hbb1186
            have hx1198 := bifT hx1198
            obtain ⟨masks_here_1207, hx1208, hx1198⟩ := bindS hx1198
            refine x_set w1206 (EL.e (el_cb rc_listL (ea_cons (e_var (R := (rL rI)) (x := s1122) rfl h1184) ea_nil))) hx1208 ?_
            intro v1211 H1209 G1212 w1210 e1213 h1214
            have h1215 := Rep.mono _ e1213 h1185
            have h1216 := Rep.mono _ e1213 h1184
            refine x_next ?_
            have hx1198 : masks_here_1207 = s1197 := Option.some.inj hx1198
            subst hx1198
            exact ⟨v1211, G1212, w1210, e1213, rfl, h1214⟩
          · intro hbb1186 H1217 w1218
            subst hbb1186
            have hx1198 := bifF hx1198
            refine x_next ?_
            have hx1198 : s1077.1 = s1197 := Option.some.inj hx1198
            subst hx1198
            exact ⟨v1078, G1181, w1218, (Evl.Ex.refl _), rfl, h1185⟩
        · rintro σ' H1221 ⟨v1199, G1219, w1202, e1201, rfl, h1200⟩
          have h1220 := Rep.mono _ e1201 h1184
          refine x_next ?_
          have hb1084 : (s1197, x1099.2) = q1086 := Option.some.inj hb1084
          subst hb1084
          exact ⟨G1219, (s1197, x1099.2), v1199, (some (V.int x1092)), (some (V.int x1099.1)), (some (V.ref p1112)), (u1123), w1202, (((((e1089.trans e1105).trans e1115).trans e1176).trans e1183).trans e1201), rfl, h1200, hm1085⟩
    · rintro σ' G1222 H1225 ⟨s1077, v1078, u1080, u1081, u1082, u1083, w1223, e1224, rfl, h1079, hm1085⟩
      have hm1085 := forS_end hm1085
      subst hm1085
      obtain ⟨rest_1227, hx1228, h⟩ := bindS h
      refine x_setL w1223 (el_cb rc_sorted (ea_cons (e_var (R := (rL rI)) (x := s1077.1) rfl h1079) ea_nil)) hx1228 ?_
      intro p1231 H1229 G1232 n1233 w1230 e1234
      have h1235 := Rep.mono _ e1234 h1079
      obtain ⟨size_1236, hx1237, h⟩ := bindS h
      refine x_setI w1230 (Sim.E.s scI (e_cb rc_lenL (ea_cons (e_var (R := (rL rI)) (x := rest_1227) rfl (w1230.rlAt (i := 0) rfl)) ea_nil))) hx1237 ?_
      intro H1238 w1239
      obtain ⟨masks_here_1240, hx1241, h⟩ := bindS h
      refine x_setL w1239 (el_disp (R := rI) eal_nil) hx1241 ?_
      intro p1244 H1242 G1245 n1246 w1243 e1247
      have h1248 := Rep.mono _ e1247 h1235
      obtain ⟨n1249, hx1250, h⟩ := bindS h
      obtain ⟨xs1251, hx1252, h⟩ := bindS h
      obtain ⟨t1254, hx1255, h⟩ := bindS h
      refine x_forR w1243 (ea_cons (Sim.E.is (e_var (R := rI) (x := size_1236) rfl rfl) hx1250) ea_nil) rfl hx1252 (fun i G' H' σ' => ∃ s1256 : ((List Int) × ((List Int) × (List Int))), ∃ u1257 : Option V, Wo G H [l] G' H' [(p1244, cL rI s1256.1), (p1231, cL rI s1256.2.2), (l, cL rI s1256.2.1)] ∧ Evl.Ex G1245 G' ∧ σ' = [some (V.ref l), some (V.int most0), some (V.ref p1244), u1257, some (V.ref p1231), some (V.int size_1236), u1081, u1082, u1083] ∧ forS (m__law_masks_b3) (xs1251.drop i) s1256 = some t1254) ?_ ?_ ?_
      · intro G' H' w' e'
        exact ⟨(masks_here_1240, (s1077.2, rest_1227)), (u1080), w', e', rfl, hx1255⟩
      · rintro i1265 x1266 σ' G1261 H1264 hx1267 ⟨s1256, u1257, w1262, e1263, rfl, hm1259⟩
        obtain ⟨q1260, hb1258, hm1259⟩ := forS_at hx1267 hm1259
        refine g_name ?_
        unfold m__law_masks_b3 at hb1258
        refine x_drop ?_
        refine o_bm (j := 0) w1262 rfl rfl ?_
        refine o_cons ?_
        refine o_bm (j := 1) w1262 rfl rfl ?_
        refine o_cons ?_
        refine o_call ?_
        refine o_cons ?_
        refine o_var rfl ?_
        refine o_cons ?_
        obtain ⟨x1268, hx1269, hb1258⟩ := bindS hb1258
        refine c_i w1262 (Sim.E.s scI (e_cb rc_lenL (ea_cons (e_var (R := (rL rI)) (x := s1256.2.2) rfl (w1262.rlAt (i := 1) rfl)) ea_nil))) hx1269 ?_
        intro H1270 w1271
        refine o_nil ?_
        obtain ⟨x1273, hx1274, hb1258⟩ := bindS hb1258
        refine c_p1 (i := 2) (j := (x1268, ())) w1271 rfl ⟨_, _, rfl, rfl, rfl⟩ hx1274 ?_
        intro u1275 H1276 G1277 w1278 e1279 r1280
        cases r1280
        have w1278 : Wo G H [l] G1277 H1276 [(p1244, cL rI s1256.1), (p1231, cL rI s1256.2.2), (l, cL rI x1273.2)] := w1278
        refine o_nil ?_
        obtain ⟨x1282, hx1283, hb1258⟩ := bindS hb1258
        refine c_popAt (j := 1) w1278 rfl hx1283 ?_
        intro v1284 H1285 w1286 r1287
        cases r1287
        have w1286 : Wo G H [l] G1277 H1285 [(p1244, cL rI s1256.1), (p1231, cL rI x1282.2), (l, cL rI x1273.2)] := w1286
        refine o_nil ?_
        obtain ⟨masks_here_1289, hx1290, hb1258⟩ := bindS hb1258
        obtain ⟨hs1293, q1294⟩ := appM_ok hx1290
        subst q1294
        refine c_app (j := 0) w1286 rfl hs1293 rfl ?_
        intro H1291 w1292
        have w1292 : Wo G H [l] G1277 H1291 [(p1244, cL rI (s1256.1 ++ [x1282.1])), (p1231, cL rI x1282.2), (l, cL rI x1273.2)] := w1292
        refine x_next ?_
        have hb1258 : ((s1256.1 ++ [x1282.1]), (x1273.2, x1282.2)) = q1260 := Option.some.inj hb1258
        subst hb1258
        exact ⟨G1277, ((s1256.1 ++ [x1282.1]), (x1273.2, x1282.2)), (some (V.int x1266)), w1292, (e1263.trans e1279), rfl, hm1259⟩
      · rintro σ' G1295 H1298 ⟨s1256, u1257, w1296, e1297, rfl, hm1259⟩
        have hm1259 := forS_end hm1259
        subst hm1259
        obtain ⟨h8, h9⟩ : s1256.1 = r ∧ s1256.2.1 = k' := Prod.mk.inj (Option.some.inj h)
        subst h8
        subst h9
        refine x_retO (o_var rfl ?_)
        exact k _ _ _ n1246 w1296.f (w1296.sub2 (i := 0) (j := 2) rfl rfl (by decide))
def m__law_under (masks_here0 : (List Int)) (low0 : Int) (high0 : Int) : Option Bool :=
  (((atI masks_here0 low0 >>= fun t1300 => (atI masks_here0 high0 >>= fun t1301 => some (Builtin.bitAnd t1300 t1301))) >>= fun t1302 => (atI masks_here0 low0 >>= fun t1303 => some (t1302 == t1303))) >>= fun a1304 => some a1304)
theorem sc__law_under : FnScope ["_law_masks_here", "_law_low", "_law_high"] ["_law_masks_here", "_law_low", "_law_high"] (defScope s__law_under) := ⟨rfl, rfl, rfl, by decide +kernel, rfl, by decide +kernel, by decide +kernel⟩
theorem ok__law_under (T : Tx K mg) : Fk P w K mg base CX0 1 "_law_under" ["_law_masks_here", "_law_low", "_law_high"] (PF (aC (rL rI) (aC rI (aC rI aN))) rB (fun i => m__law_under i.1 i.2.1 i.2.2.1)) := by
  obtain ⟨fd, F⟩ := T.def_ 19 rfl
  have nd := sc__law_under.nd
  refine fk_mk T.toTx (x := "_law_under") (T.glo 24 rfl) F (fun _ _ _ _ _ _ us hl => match us, hl with | [_, _, _], _ => rfl) (F.ok sc__law_under (fun vs H Q E h => ?_) (fun cdv A outer s H vs Q E hr h => ?_))
  · obtain ⟨G, ⟨masks_here0, low0, high0, ⟨⟩⟩, r, e0, ⟨vmasks_here0, _, rfl, hmasks_here0, vlow0, _, rfl, hlow0, vhigh0, _, rfl, hhigh0, rfl⟩, h, k⟩ := h
    rfl
  · obtain ⟨G, ⟨masks_here0, low0, high0, ⟨⟩⟩, r, e0, ⟨vmasks_here0, _, rfl, hmasks_here0, vlow0, _, rfl, hlow0, vhigh0, _, rfl, hhigh0, rfl⟩, h, k⟩ := h
    cases hlow0
    cases hhigh0
    have w0 := Wo.start e0
    have h : m__law_under masks_here0 low0 high0 = some r := h
    unfold m__law_under at h
    refine ⟨_, PSs.nox (pss_cons (ps_ret (pe_cmpR op_eq (pe_op op_and (pe_ix (r := rIxL K) ix_list (pv 0) (pv 1) (fun _ _ => rfl)) (pe_ix (r := rIxL K) ix_list (pv 0) (pv 2) (fun _ _ => rfl))) (pe_ix (r := rIxL K) ix_list (pv 0) (pv 1) (fun _ _ => rfl)) (nomark _))) pss_nil), ?_⟩
    obtain ⟨a1304, hx1305, h⟩ := bindS h
    have h : a1304 = r := Option.some.inj h
    subst h
    exact x_ret w0 (e_op rr_eqI (e_op rr_and (e_op rr_ixL (e_var (R := (rL rI)) (x := masks_here0) rfl hmasks_here0) (e_var (R := rI) (x := low0) rfl rfl)) (e_op rr_ixL (e_var (R := (rL rI)) (x := masks_here0) rfl hmasks_here0) (e_var (R := rI) (x := high0) rfl rfl))) (e_op rr_ixL (e_var (R := (rL rI)) (x := masks_here0) rfl hmasks_here0) (e_var (R := rI) (x := low0) rfl rfl))) (by first | (simp only [be1, bs1, ba1] at hx1305 ⊢; exact hx1305) | exact hx1305) (fun v9 H9 G9 w9 e9 r9 => k v9 H9 G9 w9.upE r9)
def m__law_pairs_b2 (x1333 : Int) (masks_here0 : (List Int)) (x1353 : Int) (s1343 : (List (Int × Int))) : Option (List (Int × Int)) :=
  (((andO (some (!(x1333 == x1353))) (m__law_under masks_here0 x1333 x1353)) >>= fun b1356 => bif b1356 then (some (x1333, x1353) >>= fun a1375 => appM s1343 a1375 >>= fun pairs_here_1376 => some pairs_here_1376) else some s1343) >>= fun s1367 => some (s1367))
def m__law_pairs_b1 (masks_here0 : (List Int)) (x1333 : Int) (s1322 : (List (Int × Int))) : Option (List (Int × Int)) :=
  (some (masks_here0.length : Int) >>= fun n1336 => rngM 0 n1336 >>= fun xs1338 => forS (m__law_pairs_b2 x1333 masks_here0) xs1338 s1322 >>= fun s1343 => some (s1343))
def m__law_pairs (masks_here0 : (List Int)) : Option (List (Int × Int)) :=
  (some ([]) >>= fun pairs_here_1306 => (some (masks_here0.length : Int) >>= fun n1315 => rngM 0 n1315 >>= fun xs1317 => forS (m__law_pairs_b1 masks_here0) xs1317 pairs_here_1306 >>= fun s1322 => some s1322))
theorem sc__law_pairs : FnScope ["_law_masks_here", "_law_pairs_here", "_law_low", "_law_high"] ["_law_masks_here"] (defScope s__law_pairs) := ⟨rfl, rfl, rfl, by decide +kernel, rfl, by decide +kernel, by decide +kernel⟩
theorem ok__law_pairs (T : Tx K mg) : Fk P w K mg base CX0 2 "_law_pairs" ["_law_masks_here"] (PL (aC (rL rI) aN) (rP rI rI) (fun i => m__law_pairs i.1)) := by
  obtain ⟨fd__law_under, G__law_under, b__law_under, k__law_under, g__law_under⟩ := ok__law_under (w := w) (base := base) T
  obtain ⟨fd, F⟩ := T.def_ 20 rfl
  have nd := sc__law_pairs.nd
  refine fk_mk T.toTx (x := "_law_pairs") (T.glo 25 rfl) F (fun _ _ _ _ _ _ us hl => match us, hl with | [_], _ => rfl) (F.ok sc__law_pairs (fun vs H Q E h => ?_) (fun cdv A outer s H vs Q E hr h => ?_))
  · obtain ⟨G, ⟨masks_here0, ⟨⟩⟩, r, e0, ⟨vmasks_here0, _, rfl, hmasks_here0, rfl⟩, h, k⟩ := h
    rfl
  · obtain ⟨G, ⟨masks_here0, ⟨⟩⟩, r, e0, ⟨vmasks_here0, _, rfl, hmasks_here0, rfl⟩, h, k⟩ := h
    have w0 := Wo.start e0
    have h : m__law_pairs masks_here0 = some r := h
    unfold m__law_pairs at h
    refine ⟨_, PSs.nox (pss_cons (ps_set (i := 1) nd rfl (Or.inl rfl) (pe_lst pa_nil)) (pss_cons (ps_for PassesOwn.never rfl (pi_range1 (by rfl) (fr_range T) (pa_cons (pe_callB (r := rLn K) call_len_seq (by rfl) (fr_len T) (by decide +kernel) (pa_cons (pv 0) pa_nil)) pa_nil)) (pg_name (i := 2) nd rfl (Or.inl rfl)) (pss_cons (ps_for PassesOwn.never rfl (pi_range1 (by rfl) (fr_range T) (pa_cons (pe_callB (r := rLn K) call_len_seq (by rfl) (fr_len T) (by decide +kernel) (pa_cons (pv 0) pa_nil)) pa_nil)) (pg_name (i := 3) nd rfl (Or.inl rfl)) (Evl.pss_cut (ps_if (PW.pt (pw_and (pt_cmpR op_ne (pv 2) (pv 3) (nomark _)) (pw_and1 (pt_val (pe_call G__law_under (hr.mono (by decide)) rfl g__law_under k__law_under b__law_under .nil pass0 (pa_cons (pv 0) (pa_cons (pv 2) (pa_cons (pv 3) pa_nil)))))))) (pss_cons (ps_expr (pe_bm PySem.F.plainAttrs_list PySem.F.slot_list_append PySem.F.type_list_append mt_append (pv 1) (pa_cons (pe_tup (pa_cons (pv 2) (pa_cons (pv 3) pa_nil))) pa_nil))) pss_nil) pss_nil) pss_nil)) pss_nil)) (pss_cons (ps_ret (pv 1)) pss_nil))), ?_⟩
    obtain ⟨pairs_here_1306, hx1307, h⟩ := bindS h
    refine x_setL w0 (el_disp (R := (rP rI rI)) eal_nil) hx1307 ?_
    intro p1310 H1308 G1311 n1312 w1309 e1313
    have h1314 := Rep.mono _ e1313 hmasks_here0
    obtain ⟨n1315, hx1316, h⟩ := bindS h
    obtain ⟨xs1317, hx1318, h⟩ := bindS h
    obtain ⟨t1320, hx1321, h⟩ := bindS h
    refine x_forR w1309 (ea_cons (Sim.E.is (e_cb rc_lenL (ea_cons (e_var (R := (rL rI)) (x := masks_here0) rfl h1314) ea_nil)) hx1316) ea_nil) rfl hx1318 (fun i G' H' σ' => ∃ s1322 : (List (Int × Int)), ∃ u1323 : Option V, ∃ u1324 : Option V, Wo G H [] G' H' [(p1310, cL (rP rI rI) s1322)] ∧ Evl.Ex G1311 G' ∧ σ' = [some vmasks_here0, some (V.ref p1310), u1324, u1323] ∧ forS (m__law_pairs_b1 masks_here0) (xs1317.drop i) s1322 = some t1320) ?_ ?_ ?_
    · intro G' H' w' e'
      exact ⟨pairs_here_1306, (none), (none), w', e', rfl, hx1321⟩
    · rintro i1332 x1333 σ' G1328 H1331 hx1334 ⟨s1322, u1323, u1324, w1329, e1330, rfl, hm1326⟩
      obtain ⟨q1327, hb1325, hm1326⟩ := forS_at hx1334 hm1326
      have h1335 := Rep.mono _ e1330 h1314
      refine g_name ?_
      unfold m__law_pairs_b1 at hb1325
      obtain ⟨n1336, hx1337, hb1325⟩ := bindS hb1325
      obtain ⟨xs1338, hx1339, hb1325⟩ := bindS hb1325
      obtain ⟨t1341, hx1342, hb1325⟩ := bindS hb1325
      refine x_forR w1329 (ea_cons (Sim.E.is (e_cb rc_lenL (ea_cons (e_var (R := (rL rI)) (x := masks_here0) rfl h1335) ea_nil)) hx1337) ea_nil) rfl hx1339 (fun i G' H' σ' => ∃ s1343 : (List (Int × Int)), ∃ u1344 : Option V, Wo G H [] G' H' [(p1310, cL (rP rI rI) s1343)] ∧ Evl.Ex G1328 G' ∧ σ' = [some vmasks_here0, some (V.ref p1310), some (V.int x1333), u1344] ∧ forS (m__law_pairs_b2 x1333 masks_here0) (xs1338.drop i) s1343 = some t1341) ?_ ?_ ?_
      · intro G' H' w' e'
        exact ⟨s1322, (u1323), w', e', rfl, hx1342⟩
      · rintro i1352 x1353 σ' G1348 H1351 hx1354 ⟨s1343, u1344, w1349, e1350, rfl, hm1346⟩
        obtain ⟨q1347, hb1345, hm1346⟩ := forS_at hx1354 hm1346
        have h1355 := Rep.mono _ e1350 h1335
        refine g_name ?_
        unfold m__law_pairs_b2 at hb1345
        obtain ⟨s1367, hx1368, hb1345⟩ := bindS hb1345
        refine o_cut (fun σ' H' => ∃ G' : Hp, Wo G H [] G' H' [(p1310, cL (rP rI rI) s1367)] ∧ Evl.Ex G1348 G' ∧ σ' = [some vmasks_here0, some (V.ref p1310), some (V.int x1333), some (V.int x1353)]) ?_ ?_
        · obtain ⟨b1356, hx1372, hx1368⟩ := bindS hx1368
          refine x_if w1349 (et_and (et_T (e_op rr_neI (e_var (R := rI) (x := x1333) rfl rfl) (e_var (R := rI) (x := x1353) rfl rfl))) (et_B (e_call (ea_cons (e_var (R := (rL rI)) (x := masks_here0) rfl (Rep.mono _ w1349.ex h1355)) (ea_cons (e_var (R := rI) (x := x1333) rfl rfl) (ea_cons (e_var (R := rI) (x := x1353) rfl rfl) ea_nil)))))) (by first | (simp only [be1, bs1, ba1] at hx1372 ⊢; exact hx1372) | exact hx1372) ?_ ?_
          · intro hbb1356 H1373 w1374
            subst hbb1356
            have hx1368 := bifT hx1368
            obtain ⟨a1375, hx1377, hx1368⟩ := bindS hx1368
            obtain ⟨pairs_here_1376, hx1378, hx1368⟩ := bindS hx1368
            obtain ⟨hs1379, rfl⟩ := appM_ok hx1378
            refine x_app (j := 0) w1374 rfl hs1379 rfl (e_pair (e_var (R := rI) (x := x1333) rfl rfl) (e_var (R := rI) (x := x1353) rfl rfl)) hx1377 ?_
            intro H1380 G1381 w1382 e1383
            have h1384 := Rep.mono _ e1383 h1355
            have w1382 : Wo G H [] G1381 H1380 [(p1310, cL (rP rI rI) (s1343 ++ [a1375]))] := w1382
            refine x_next ?_
            have hx1368 : (s1343 ++ [a1375]) = s1367 := Option.some.inj hx1368
            subst hx1368
            exact ⟨G1381, w1382, e1383, rfl⟩
          · intro hbb1356 H1385 w1386
            subst hbb1356
            have hx1368 := bifF hx1368
            refine x_next ?_
            have hx1368 : s1343 = s1367 := Option.some.inj hx1368
            subst hx1368
            exact ⟨G1348, w1386, (Evl.Ex.refl _), rfl⟩
        · rintro σ' H1389 ⟨G1387, w1370, e1369, rfl⟩
          have h1388 := Rep.mono _ e1369 h1355
          refine x_next ?_
          have hb1345 : s1367 = q1347 := Option.some.inj hb1345
          subst hb1345
          exact ⟨G1387, s1367, (some (V.int x1353)), w1370, (e1350.trans e1369), rfl, hm1346⟩
      · rintro σ' G1390 H1393 ⟨s1343, u1344, w1391, e1392, rfl, hm1346⟩
        have hm1346 := forS_end hm1346
        subst hm1346
        have h1395 := Rep.mono _ e1392 h1335
        refine x_next ?_
        have hb1325 : s1343 = q1327 := Option.some.inj hb1325
        subst hb1325
        exact ⟨G1390, s1343, (u1344), (some (V.int x1333)), w1391, (e1330.trans e1392), rfl, hm1326⟩
    · rintro σ' G1396 H1399 ⟨s1322, u1323, u1324, w1397, e1398, rfl, hm1326⟩
      have hm1326 := forS_end hm1326
      subst hm1326
      have h1401 := Rep.mono _ e1398 h1314
      have h : s1322 = r := Option.some.inj h
      subst h
      refine x_retO (o_var rfl ?_)
      exact k _ _ _ n1312 w1397.upE (w1397.sub1 (i := 0) rfl)
def m_Order_least_b1 (self0 : m_Order) (x1421 : Int) (s1411 : Int) : Option Int :=
  (((atI self0.f_meets s1411 >>= fun t1429 => atI t1429 x1421) >>= fun t1430 => t1430) >>= fun found_1431 => some (found_1431))
def m_Order_least (self0 : m_Order) : Option Int :=
  (some (0 : Int) >>= fun found_1402 => (some self0.f_members >>= fun xs1406 => forS (m_Order_least_b1 self0) xs1406 found_1402 >>= fun s1411 => (some s1411 >>= fun a1442 => some a1442)))
theorem sc_Order_least : FnScope ["self", "found", "value"] ["self"] (defScope s_Order_least) := ⟨rfl, rfl, rfl, by decide +kernel, rfl, by decide +kernel, by decide +kernel⟩
theorem ok_Order_least (T : Tx K mg) : Fp P w K mg base CX0 1 "Order" "least" ["self"] (PF (aC (r_Order K) aN) rI (fun i => m_Order_least i.1)) := by
  obtain ⟨_, _, fd, F⟩ := T.ge 0 rfl
  have nd := sc_Order_least.nd
  refine fp_mk F (fun _ _ _ _ _ _ us hl => match us, hl with | [_], _ => rfl) (F.ok sc_Order_least (fun vs H Q E h => ?_) (fun cdv A outer s H vs Q E hr h => ?_))
  · obtain ⟨G, ⟨self0, ⟨⟩⟩, r, e0, ⟨vself0, _, rfl, hself0, rfl⟩, h, k⟩ := h
    rfl
  · obtain ⟨G, ⟨self0, ⟨⟩⟩, r, e0, ⟨vself0, _, rfl, hself0, rfl⟩, h, k⟩ := h
    have w0 := Wo.start e0
    have h : m_Order_least self0 = some r := h
    unfold m_Order_least at h
    refine ⟨_, PSs.nox (pss_cons (ps_set (i := 1) nd rfl (Or.inl rfl) pe_int) (pss_cons (ps_for PassesOwn.never rfl (pi_list (pe_fld (pv 0) rfl)) (pg_name (i := 2) nd rfl (Or.inl rfl)) (pss_cons (ps_set (i := 1) nd rfl (Or.inl rfl) (pe_ix (r := rIxL K) ix_list (pe_ix (r := rIxL K) ix_list (pe_fld (pv 0) rfl) (pv 1) (fun _ _ => rfl)) (pv 2) (fun _ _ => rfl))) pss_nil)) (pss_cons (ps_ret (pv 1)) pss_nil))), ?_⟩
    obtain ⟨found_1402, hx1403, h⟩ := bindS h
    refine x_setI w0 e_int hx1403 ?_
    intro H1404 w1405
    obtain ⟨xs1406, hx1407, h⟩ := bindS h
    obtain ⟨t1409, hx1410, h⟩ := bindS h
    refine x_forL w1405 (e_fld 3 (fun (o : m_Order) => o.f_members) (e_var (R := (r_Order K)) (x := self0) rfl hself0) (T.cls 47 rfl) (T.noat 51 rfl) (by decide +kernel) (fun _ => rfl)) hx1407 (fun i G' H' σ' => ∃ s1411 : Int, ∃ u1412 : Option V, Wo G H [] G' H' [] ∧ Evl.Ex G G' ∧ σ' = [some vself0, some (V.int s1411), u1412] ∧ forS (m_Order_least_b1 self0) (xs1406.drop i) s1411 = some t1409) (fun _ _ _ _ ⟨_, _, w, _⟩ => w.ex) ?_ ?_ ?_
    · intro G' H' w' e'
      exact ⟨found_1402, (none), w', e', rfl, hx1410⟩
    · rintro G1423 e1424 i1420 x1421 v1425 σ' G1416 H1419 hx1422 e1427 ⟨s1411, u1412, w1417, e1418, rfl, hm1414⟩ r1426
      obtain ⟨q1415, hb1413, hm1414⟩ := forS_at hx1422 hm1414
      have h1428 := Rep.mono _ e1418 hself0
      refine g_name ?_
      cases r1426
      unfold m_Order_least_b1 at hb1413
      obtain ⟨found_1431, hx1432, hb1413⟩ := bindS hb1413
      refine x_setI w1417 (e_get (e_op rr_ixL (e_op rr_ixL (e_fld 2 (fun (o : m_Order) => o.f_meets) (e_var (R := (r_Order K)) (x := self0) rfl h1428) (T.cls 47 rfl) (T.noat 50 rfl) (by decide +kernel) (fun _ => rfl)) (e_var (R := rI) (x := s1411) rfl rfl)) (e_var (R := rI) (x := x1421) rfl rfl))) (by first | (simp only [be1, bs1, ba1] at hx1432 ⊢; exact hx1432) | exact hx1432) ?_
      intro H1433 w1434
      refine x_next ?_
      have hb1413 : found_1431 = q1415 := Option.some.inj hb1413
      subst hb1413
      exact ⟨G1416, (e1427.trans (Evl.Ex.refl _)), found_1431, (some (V.int x1421)), w1434, e1418, rfl, hm1414⟩
    · rintro σ' G1435 H1438 e1439 ⟨s1411, u1412, w1436, e1437, rfl, hm1414⟩
      have hm1414 := forS_end hm1414
      subst hm1414
      have h1441 := Rep.mono _ e1437 hself0
      obtain ⟨a1442, hx1443, h⟩ := bindS h
      have h : a1442 = r := Option.some.inj h
      subst h
      exact x_ret w1436 (e_var (R := rI) (x := s1411) rfl rfl) hx1443 (fun v9 H9 G9 w9 e9 r9 => k v9 H9 G9 w9.upE r9)
def m__law_names_b2 (s1463 : ((List Str) × (List Int))) (x1577 : Int) (s1567 : Str) : Option Str :=
  ((some (s1463.1.any fun z => z == s1567) >>= fun b1579 => bif b1579 then (addS s1567 ("x" : Str) >>= fun name_1592 => some name_1592) else some s1567) >>= fun s1584 => some (s1584))
def m__law_names_b1 (signs_1444 : Str) (x1475 : Int) (s1463 : ((List Str) × (List Int))) : Option ((List Str) × (List Int)) :=
  (some signs_1444 >>= fun x1477 => (some (62 : Int) >>= fun x1482 => (m__law_draw s1463.2 x1482 >>= fun x1487 => (ixS x1477 x1487.1 >>= fun x1495 => (some (4 : Int) >>= fun x1504 => (m__law_draw x1487.2 x1504 >>= fun x1509 => (mulS x1495 x1509.1 >>= fun x1517 => (some signs_1444 >>= fun x1526 => (some (62 : Int) >>= fun x1531 => (m__law_draw x1509.2 x1531 >>= fun x1536 => (ixS x1526 x1536.1 >>= fun x1544 => (addS x1517 x1544 >>= fun x1552 => (some x1475 >>= fun n1560 => rngM 0 n1560 >>= fun xs1562 => forS (m__law_names_b2 s1463) xs1562 x1552 >>= fun s1567 => (some s1567 >>= fun a1605 => appM s1463.1 a1605 >>= fun names_here_1606 => some ((names_here_1606, x1536.2))))))))))))))))
def m__law_names (pot_here0 : (List Int)) (many0 : Int) : Option ((List Str) × (List Int)) :=
  (some ("abcdefghijklmnopqrstuvwxyzABCDEFGHIJKLMNOPQRSTUVWXYZ0123456789" : Str) >>= fun signs_1444 => (some ([]) >>= fun names_here_1448 => (some many0 >>= fun n1456 => rngM 0 n1456 >>= fun xs1458 => forS (m__law_names_b1 signs_1444) xs1458 (names_here_1448, pot_here0) >>= fun s1463 => some (s1463.1, s1463.2))))
theorem sc__law_names : FnScope ["_law_pot_here", "_law_many", "_law_signs", "_law_names_here", "_law_k", "_law_name", "_law_other"] ["_law_pot_here", "_law_many"] (defScope s__law_names) := ⟨rfl, rfl, rfl, by decide +kernel, rfl, by decide +kernel, by decide +kernel⟩
theorem ok__law_names (T : Tx K mg) : Fk P w K mg base CX0 2 "_law_names" ["_law_pot_here", "_law_many"] (P1L (aC rI aN) rI rS (fun ys i => m__law_names ys i.1)) := by
  obtain ⟨fd__law_draw, G__law_draw, b__law_draw, k__law_draw, g__law_draw⟩ := ok__law_draw (w := w) (base := base) T
  obtain ⟨fd, F⟩ := T.def_ 21 rfl
  have nd := sc__law_names.nd
  refine fk_mk T.toTx (x := "_law_names") (T.glo 26 rfl) F (fun _ _ _ _ _ _ us hl => match us, hl with | [_, _], _ => rfl) (F.ok sc__law_names (fun vs H Q E h => ?_) (fun cdv A outer s H vs Q E hr h => ?_))
  · obtain ⟨G, ⟨l, ⟨many0, ⟨⟩⟩⟩, pot_here0, r, k', ⟨_, _, rfl, rfl, ⟨vmany0, _, rfl, hmany0, rfl⟩⟩, wd, h, k⟩ := h
    rfl
  · obtain ⟨G, ⟨l, ⟨many0, ⟨⟩⟩⟩, pot_here0, r, k', ⟨_, _, rfl, rfl, ⟨vmany0, _, rfl, hmany0, rfl⟩⟩, wd, h, k⟩ := h
    cases hmany0
    have w0 : Wo G H [l] G H _ := Wo.startC wd
    have h : m__law_names pot_here0 many0 = some (r, k') := h
    unfold m__law_names at h
    refine ⟨_, PSs.nox (pss_cons (ps_set (i := 2) nd rfl (Or.inl rfl) pe_str) (pss_cons (ps_set (i := 3) nd rfl (Or.inl rfl) (pe_lst pa_nil)) (pss_cons (ps_for PassesOwn.never rfl (pi_range1 (by rfl) (fr_range T) (pa_cons (pv 1) pa_nil)) (pg_name (i := 4) nd rfl (Or.inl rfl)) (pss_cons (ps_set (i := 5) nd rfl (Or.inl rfl) (pe_op (r := rAddS) op_add_str (pe_op (r := rMulS) op_mulS (pe_ix (r := rIxS) ix_str (pv 2) (pe_call G__law_draw (hr.mono (by decide)) rfl g__law_draw k__law_draw b__law_draw .nil pass0 (pa_cons (pv 0) (pa_cons pe_int pa_nil))) (fun _ _ => rfl)) (pe_call G__law_draw (hr.mono (by decide)) rfl g__law_draw k__law_draw b__law_draw .nil pass0 (pa_cons (pv 0) (pa_cons pe_int pa_nil)))) (pe_ix (r := rIxS) ix_str (pv 2) (pe_call G__law_draw (hr.mono (by decide)) rfl g__law_draw k__law_draw b__law_draw .nil pass0 (pa_cons (pv 0) (pa_cons pe_int pa_nil))) (fun _ _ => rfl)))) (pss_cons (ps_for PassesOwn.never rfl (pi_range1 (by rfl) (fr_range T) (pa_cons (pv 4) pa_nil)) (pg_name (i := 6) nd rfl (Or.inl rfl)) (Evl.pss_cut (ps_if (pt_cmpR (r := rIn K false) op_in_seq (pv 5) (pv 3) (by rfl)) (pss_cons (ps_set (i := 5) nd rfl (Or.inl rfl) (pe_op (r := rAddS) op_add_str (pv 5) pe_str)) pss_nil) pss_nil) pss_nil)) (pss_cons (ps_expr (pe_bm PySem.F.plainAttrs_list PySem.F.slot_list_append PySem.F.type_list_append mt_append (pv 3) (pa_cons (pv 5) pa_nil))) pss_nil)))) (pss_cons (ps_ret (pv 3)) pss_nil)))), ?_⟩
    obtain ⟨signs_1444, hx1445, h⟩ := bindS h
    refine x_setS w0 e_str hx1445 ?_
    intro H1446 w1447
    obtain ⟨names_here_1448, hx1449, h⟩ := bindS h
    refine x_setL w1447 (el_disp (R := rS) eal_nil) hx1449 ?_
    intro p1452 H1450 G1453 n1454 w1451 e1455
    obtain ⟨n1456, hx1457, h⟩ := bindS h
    obtain ⟨xs1458, hx1459, h⟩ := bindS h
    obtain ⟨t1461, hx1462, h⟩ := bindS h
    refine x_forR w1451 (ea_cons (Sim.E.is (e_var (R := rI) (x := many0) rfl rfl) hx1457) ea_nil) rfl hx1459 (fun i G' H' σ' => ∃ s1463 : ((List Str) × (List Int)), ∃ u1464 : Option V, ∃ u1465 : Option V, ∃ u1466 : Option V, Wo G H [l] G' H' [(p1452, cL rS s1463.1), (l, cL rI s1463.2)] ∧ Evl.Ex G1453 G' ∧ σ' = [some (V.ref l), some (V.int many0), some (V.str signs_1444), some (V.ref p1452), u1464, u1465, u1466] ∧ forS (m__law_names_b1 signs_1444) (xs1458.drop i) s1463 = some t1461) ?_ ?_ ?_
    · intro G' H' w' e'
      exact ⟨(names_here_1448, pot_here0), (none), (none), (none), w', e', rfl, hx1462⟩
    · rintro i1474 x1475 σ' G1470 H1473 hx1476 ⟨s1463, u1464, u1465, u1466, w1471, e1472, rfl, hm1468⟩
      obtain ⟨q1469, hb1467, hm1468⟩ := forS_at hx1476 hm1468
      refine g_name ?_
      unfold m__law_names_b1 at hb1467
      refine x_setO ?_
      refine o_op ?_
      refine o_op ?_
      refine o_op ?_
      obtain ⟨x1477, hx1478, hb1467⟩ := bindS hb1467
      refine c_s w1471 (e_var (R := rS) (x := signs_1444) rfl rfl) hx1478 ?_
      intro H1479 w1480
      refine o_call ?_
      refine o_cons ?_
      refine o_var rfl ?_
      refine o_cons ?_
      obtain ⟨x1482, hx1483, hb1467⟩ := bindS hb1467
      refine c_i w1480 e_int hx1483 ?_
      intro H1484 w1485
      refine o_nil ?_
      obtain ⟨x1487, hx1488, hb1467⟩ := bindS hb1467
      refine c_p1 (i := 1) (j := (x1482, ())) w1485 rfl ⟨_, _, rfl, rfl, rfl⟩ hx1488 ?_
      intro u1489 H1490 G1491 w1492 e1493 r1494
      cases r1494
      have w1492 : Wo G H [l] G1491 H1490 [(p1452, cL rS s1463.1), (l, cL rI x1487.2)] := w1492
      obtain ⟨x1495, hx1496, hb1467⟩ := bindS hb1467
      refine c_rr rr_ixS w1492 rfl rfl hx1496 ?_
      intro u1497 H1498 G1499 w1500 e1501 r1502
      cases r1502
      refine o_call ?_
      refine o_cons ?_
      refine o_var rfl ?_
      refine o_cons ?_
      obtain ⟨x1504, hx1505, hb1467⟩ := bindS hb1467
      refine c_i w1500 e_int hx1505 ?_
      intro H1506 w1507
      refine o_nil ?_
      obtain ⟨x1509, hx1510, hb1467⟩ := bindS hb1467
      refine c_p1 (i := 1) (j := (x1504, ())) w1507 rfl ⟨_, _, rfl, rfl, rfl⟩ hx1510 ?_
      intro u1511 H1512 G1513 w1514 e1515 r1516
      cases r1516
      have w1514 : Wo G H [l] G1513 H1512 [(p1452, cL rS s1463.1), (l, cL rI x1509.2)] := w1514
      obtain ⟨x1517, hx1518, hb1467⟩ := bindS hb1467
      refine c_rr rr_mulS w1514 rfl rfl hx1518 ?_
      intro u1519 H1520 G1521 w1522 e1523 r1524
      cases r1524
      refine o_op ?_
      obtain ⟨x1526, hx1527, hb1467⟩ := bindS hb1467
      refine c_s w1522 (e_var (R := rS) (x := signs_1444) rfl rfl) hx1527 ?_
      intro H1528 w1529
      refine o_call ?_
      refine o_cons ?_
      refine o_var rfl ?_
      refine o_cons ?_
      obtain ⟨x1531, hx1532, hb1467⟩ := bindS hb1467
      refine c_i w1529 e_int hx1532 ?_
      intro H1533 w1534
      refine o_nil ?_
      obtain ⟨x1536, hx1537, hb1467⟩ := bindS hb1467
      refine c_p1 (i := 1) (j := (x1531, ())) w1534 rfl ⟨_, _, rfl, rfl, rfl⟩ hx1537 ?_
      intro u1538 H1539 G1540 w1541 e1542 r1543
      cases r1543
      have w1541 : Wo G H [l] G1540 H1539 [(p1452, cL rS s1463.1), (l, cL rI x1536.2)] := w1541
      obtain ⟨x1544, hx1545, hb1467⟩ := bindS hb1467
      refine c_rr rr_ixS w1541 rfl rfl hx1545 ?_
      intro u1546 H1547 G1548 w1549 e1550 r1551
      cases r1551
      obtain ⟨x1552, hx1553, hb1467⟩ := bindS hb1467
      refine c_rr rr_addS w1549 rfl rfl hx1553 ?_
      intro u1554 H1555 G1556 w1557 e1558 r1559
      cases r1559
      obtain ⟨n1560, hx1561, hb1467⟩ := bindS hb1467
      obtain ⟨xs1562, hx1563, hb1467⟩ := bindS hb1467
      obtain ⟨t1565, hx1566, hb1467⟩ := bindS hb1467
      refine x_forR w1557 (ea_cons (Sim.E.is (e_var (R := rI) (x := x1475) rfl rfl) hx1561) ea_nil) rfl hx1563 (fun i G' H' σ' => ∃ s1567 : Str, ∃ u1568 : Option V, Wo G H [l] G' H' [(p1452, cL rS s1463.1), (l, cL rI x1536.2)] ∧ Evl.Ex G1556 G' ∧ σ' = [some (V.ref l), some (V.int many0), some (V.str signs_1444), some (V.ref p1452), some (V.int x1475), some (V.str s1567), u1568] ∧ forS (m__law_names_b2 s1463) (xs1562.drop i) s1567 = some t1565) ?_ ?_ ?_
      · intro G' H' w' e'
        exact ⟨x1552, (u1466), w', e', rfl, hx1566⟩
      · rintro i1576 x1577 σ' G1572 H1575 hx1578 ⟨s1567, u1568, w1573, e1574, rfl, hm1570⟩
        obtain ⟨q1571, hb1569, hm1570⟩ := forS_at hx1578 hm1570
        refine g_name ?_
        unfold m__law_names_b2 at hb1569
        obtain ⟨s1584, hx1585, hb1569⟩ := bindS hb1569
        refine o_cut (fun σ' H' => ∃ G' : Hp, Wo G H [l] G' H' [(p1452, cL rS s1463.1), (l, cL rI x1536.2)] ∧ Evl.Ex G1572 G' ∧ σ' = [some (V.ref l), some (V.int many0), some (V.str signs_1444), some (V.ref p1452), some (V.int x1475), some (V.str s1584), some (V.int x1577)]) ?_ ?_
        · obtain ⟨b1579, hx1589, hx1585⟩ := bindS hx1585
          refine x_if w1573 (et_T (e_op (rr_inL flS) (e_var (R := rS) (x := s1567) rfl rfl) (e_var (R := (rL rS)) (x := s1463.1) rfl (w1573.rlAt (i := 0) rfl)))) hx1589 ?_ ?_
          · intro hbb1579 H1590 w1591
            subst hbb1579
            have hx1585 := bifT hx1585
            obtain ⟨name_1592, hx1593, hx1585⟩ := bindS hx1585
            refine x_setS w1591 (e_op rr_addS (e_var (R := rS) (x := s1567) rfl rfl) e_str) (by first | (simp only [be1, bs1, ba1] at hx1593 ⊢; exact hx1593) | exact hx1593) ?_
            intro H1594 w1595
            refine x_next ?_
            have hx1585 : name_1592 = s1584 := Option.some.inj hx1585
            subst hx1585
            exact ⟨G1572, w1595, (Evl.Ex.refl _), rfl⟩
          · intro hbb1579 H1596 w1597
            subst hbb1579
            have hx1585 := bifF hx1585
            refine x_next ?_
            have hx1585 : s1567 = s1584 := Option.some.inj hx1585
            subst hx1585
            exact ⟨G1572, w1597, (Evl.Ex.refl _), rfl⟩
        · rintro σ' H1599 ⟨G1598, w1587, e1586, rfl⟩
          refine x_next ?_
          have hb1569 : s1584 = q1571 := Option.some.inj hb1569
          subst hb1569
          exact ⟨G1598, s1584, (some (V.int x1577)), w1587, (e1574.trans e1586), rfl, hm1570⟩
      · rintro σ' G1600 H1603 ⟨s1567, u1568, w1601, e1602, rfl, hm1570⟩
        have hm1570 := forS_end hm1570
        subst hm1570
        obtain ⟨a1605, hx1607, hb1467⟩ := bindS hb1467
        obtain ⟨names_here_1606, hx1608, hb1467⟩ := bindS hb1467
        obtain ⟨hs1609, rfl⟩ := appM_ok hx1608
        refine x_app (j := 0) w1601 rfl hs1609 rfl (e_var (R := rS) (x := s1567) rfl rfl) hx1607 ?_
        intro H1610 G1611 w1612 e1613
        have w1612 : Wo G H [l] G1611 H1610 [(p1452, cL rS (s1463.1 ++ [a1605])), (l, cL rI x1536.2)] := w1612
        refine x_next ?_
        have hb1467 : ((s1463.1 ++ [a1605]), x1536.2) = q1469 := Option.some.inj hb1467
        subst hb1467
        exact ⟨G1611, ((s1463.1 ++ [a1605]), x1536.2), (some (V.int x1475)), (some (V.str s1567)), (u1568), w1612, (((((((((e1472.trans e1493).trans e1501).trans e1515).trans e1523).trans e1542).trans e1550).trans e1558).trans e1602).trans e1613), rfl, hm1468⟩
    · rintro σ' G1614 H1617 ⟨s1463, u1464, u1465, u1466, w1615, e1616, rfl, hm1468⟩
      have hm1468 := forS_end hm1468
      subst hm1468
      obtain ⟨h8, h9⟩ : s1463.1 = r ∧ s1463.2 = k' := Prod.mk.inj (Option.some.inj h)
      subst h8
      subst h9
      refine x_retO (o_var rfl ?_)
      exact k _ _ _ n1454 w1615.f (w1615.sub2 (i := 0) (j := 1) rfl rfl (by decide))
def m_Order___eq__ (self0 : m_Order) (other0 : m_Order) : Option Bool :=
  (some (true && (decide (self0.f_above = other0.f_above))) >>= fun a1619 => some a1619)
theorem sc_Order___eq__ : FnScope ["self", "other"] ["self", "other"] (defScope s_Order___eq__) := ⟨rfl, rfl, rfl, by decide +kernel, rfl, by decide +kernel, by decide +kernel⟩
theorem ok_Order___eq__ (T : Tx K mg) : Fm P w K mg base CX0 1 "Order" "__eq__" ["self", "other"] (PF (aC (r_Order K) (aC (r_Order K) aN)) rB (fun i => m_Order___eq__ i.1 i.2.1)) := by
  obtain ⟨fd, F⟩ := T.def_ 14 rfl
  have nd := sc_Order___eq__.nd
  refine fm_mk F (fun _ _ _ _ _ _ us hl => match us, hl with | [_, _], _ => rfl) (F.ok sc_Order___eq__ (fun vs H Q E h => ?_) (fun cdv A outer s H vs Q E hr h => ?_))
  · obtain ⟨G, ⟨self0, other0, ⟨⟩⟩, r, e0, ⟨vself0, _, rfl, hself0, vother0, _, rfl, hother0, rfl⟩, h, k⟩ := h
    rfl
  · obtain ⟨G, ⟨self0, other0, ⟨⟩⟩, r, e0, ⟨vself0, _, rfl, hself0, vother0, _, rfl, hother0, rfl⟩, h, k⟩ := h
    have w0 := Wo.start e0
    have h : m_Order___eq__ self0 other0 = some r := h
    unfold m_Order___eq__ at h
    refine ⟨_, PSs.nox (pss_cons (ps_ret (pe_and (pe_callB (r := rIsi K) call_isi (by rfl) (fr_isinstance T) (by decide +kernel) (pa_cons (pv 1) (pa_cons (pe_glob (v := .ref (He.ga K "Order")) (by rfl) (T.glo 19 rfl) rfl) pa_nil))) (pe_one (pe_cmpR (r := rEqP K) (op_eqP hr.units) (pe_fld (pv 0) rfl) (pe_fld (pv 1) rfl) (nomark _))))) pss_nil), ?_⟩
    obtain ⟨a1619, hx1620, h⟩ := bindS h
    have h : a1619 = r := Option.some.inj h
    subst h
    exact x_ret w0 (e_andP (e_isiO (b := true) (e_var (R := (r_Order K)) (x := other0) rfl hother0) (T.mo 2 rfl) (T.cls 47 rfl) (ki_ok (T.mo 1 rfl))) (e_op (rr_eqD (dtL (dtL dtB)) (by decide)) (e_fld 0 (fun (o : m_Order) => o.f_above) (e_var (R := (r_Order K)) (x := self0) rfl hself0) (T.cls 47 rfl) (T.noat 48 rfl) (by decide +kernel) (fun _ => rfl)) (e_fld 0 (fun (o : m_Order) => o.f_above) (e_var (R := (r_Order K)) (x := other0) rfl hother0) (T.cls 47 rfl) (T.noat 48 rfl) (by decide +kernel) (fun _ => rfl)))) hx1620 (fun v9 H9 G9 w9 e9 r9 => k v9 H9 G9 w9.upE r9)
def m_Order___contains__ (self0 : m_Order) (value0 : Int) : Option Bool :=
  ((some (0 : Int) >>= fun t1621 => some value0 >>= fun t1622 => andO (some (decide (t1621 ≤ t1622))) (some (self0.f_members.length : Int) >>= fun t1623 => some (decide (t1622 < t1623)))) >>= fun a1624 => some a1624)
theorem sc_Order___contains__ : FnScope ["self", "value"] ["self", "value"] (defScope s_Order___contains__) := ⟨rfl, rfl, rfl, by decide +kernel, rfl, by decide +kernel, by decide +kernel⟩
theorem ok_Order___contains__ (T : Tx K mg) : Fm P w K mg base CX0 1 "Order" "__contains__" ["self", "value"] (PF (aC (r_Order K) (aC rI aN)) rB (fun i => m_Order___contains__ i.1 i.2.1)) := by
  obtain ⟨fd, F⟩ := T.def_ 13 rfl
  have nd := sc_Order___contains__.nd
  refine fm_mk F (fun _ _ _ _ _ _ us hl => match us, hl with | [_, _], _ => rfl) (F.ok sc_Order___contains__ (fun vs H Q E h => ?_) (fun cdv A outer s H vs Q E hr h => ?_))
  · obtain ⟨G, ⟨self0, value0, ⟨⟩⟩, r, e0, ⟨vself0, _, rfl, hself0, vvalue0, _, rfl, hvalue0, rfl⟩, h, k⟩ := h
    rfl
  · obtain ⟨G, ⟨self0, value0, ⟨⟩⟩, r, e0, ⟨vself0, _, rfl, hself0, vvalue0, _, rfl, hvalue0, rfl⟩, h, k⟩ := h
    cases hvalue0
    have w0 := Wo.start e0
    have h : m_Order___contains__ self0 value0 = some r := h
    unfold m_Order___contains__ at h
    refine ⟨_, PSs.nox (pss_cons (ps_ret (pe_chain op_le op_lt pe_int (pv 1) (pe_callB (r := rLn K) call_len_seq (by rfl) (fr_len T) (by decide +kernel) (pa_cons (pe_fld (pv 0) rfl) pa_nil)))) pss_nil), ?_⟩
    obtain ⟨a1624, hx1625, h⟩ := bindS h
    have h : a1624 = r := Option.some.inj h
    subst h
    exact x_ret w0 (e_chain rr_le rr_lt e_int (e_var (R := rI) (x := value0) rfl rfl) (e_cb rc_lenL (ea_cons (e_fld 3 (fun (o : m_Order) => o.f_members) (e_var (R := (r_Order K)) (x := self0) rfl hself0) (T.cls 47 rfl) (T.noat 51 rfl) (by decide +kernel) (fun _ => rfl)) ea_nil))) (by first | (simp only [be1, bs1, ba1] at hx1625 ⊢; exact hx1625) | exact hx1625) (fun v9 H9 G9 w9 e9 r9 => k v9 H9 G9 w9.upE r9)
def m__law_int (value0 : Int) : Option Bool :=
  (some (true && (!false)) >>= fun a1626 => some a1626)
theorem sc__law_int : FnScope ["_law_value"] ["_law_value"] (defScope s__law_int) := ⟨rfl, rfl, rfl, by decide +kernel, rfl, by decide +kernel, by decide +kernel⟩
theorem ok__law_int (T : Tx K mg) : Fk P w K mg base CX0 1 "_law_int" ["_law_value"] (PF (aC rI aN) rB (fun i => m__law_int i.1)) := by
  obtain ⟨fd, F⟩ := T.def_ 17 rfl
  have nd := sc__law_int.nd
  refine fk_mk T.toTx (x := "_law_int") (T.glo 22 rfl) F (fun _ _ _ _ _ _ us hl => match us, hl with | [_], _ => rfl) (F.ok sc__law_int (fun vs H Q E h => ?_) (fun cdv A outer s H vs Q E hr h => ?_))
  · obtain ⟨G, ⟨value0, ⟨⟩⟩, r, e0, ⟨vvalue0, _, rfl, hvalue0, rfl⟩, h, k⟩ := h
    rfl
  · obtain ⟨G, ⟨value0, ⟨⟩⟩, r, e0, ⟨vvalue0, _, rfl, hvalue0, rfl⟩, h, k⟩ := h
    cases hvalue0
    have w0 := Wo.start e0
    have h : m__law_int value0 = some r := h
    unfold m__law_int at h
    refine ⟨_, PSs.nox (pss_cons (ps_ret (pe_and (pe_callB (r := rIsi K) call_isi (by rfl) (fr_isinstance T) (by decide +kernel) (pa_cons (pv 0) (pa_cons (pe_bltn (v := .ty "int") (by rfl) (fr_int T) (by decide +kernel) rfl) pa_nil))) (pe_one (pe_not (pe_callB (r := rIsi K) call_isi (by rfl) (fr_isinstance T) (by decide +kernel) (pa_cons (pv 0) (pa_cons (pe_bltn (v := .ty "bool") (by rfl) (fr_bool T) (by decide +kernel) rfl) pa_nil))))))) pss_nil), ?_⟩
    obtain ⟨a1626, hx1627, h⟩ := bindS h
    have h : a1626 = r := Option.some.inj h
    subst h
    exact x_ret w0 (e_andP (e_isi (e_var (R := rI) (x := value0) rfl rfl) ktI (n := "int") (c := "int") (b := true) (by decide +kernel)) (e_notV (e_isi (e_var (R := rI) (x := value0) rfl rfl) ktI (n := "int") (c := "bool") (b := false) (by decide +kernel)))) hx1627 (fun v9 H9 G9 w9 e9 r9 => k v9 H9 G9 w9.upE r9)
def m__law_found_b1 (name0 : Str) (x1643 : (Str × Int)) (s1633 : Unit) : Option (Stp Unit (Option Int)) :=
  (some (decide (x1643.1 = name0)) >>= fun b1651 => bif b1651 then (some (some x1643.2) >>= fun a1655 => some (Stp.rt a1655)) else some (Stp.nx ()))
def m__law_found (own0 : (List (Str × Int))) (name0 : Str) : Option (Option Int) :=
  (some own0 >>= fun xs1628 => forL (m__law_found_b1 name0) xs1628 () >>= Sum.elim (fun s1633 => (some (none : (Option Int)) >>= fun a1666 => some a1666)) (fun r => some r))
theorem sc__law_found : FnScope ["_law_own", "_law_name", "_law_pair"] ["_law_own", "_law_name"] (defScope s__law_found) := ⟨rfl, rfl, rfl, by decide +kernel, rfl, by decide +kernel, by decide +kernel⟩
theorem ok__law_found (T : Tx K mg) : Fk P w K mg base CX0 1 "_law_found" ["_law_own", "_law_name"] (PF (aC (rL (rP rS rI)) (aC rS aN)) (rO rI) (fun i => m__law_found i.1 i.2.1)) := by
  obtain ⟨fd, F⟩ := T.def_ 25 rfl
  have nd := sc__law_found.nd
  refine fk_mk T.toTx (x := "_law_found") (T.glo 30 rfl) F (fun _ _ _ _ _ _ us hl => match us, hl with | [_, _], _ => rfl) (F.ok sc__law_found (fun vs H Q E h => ?_) (fun cdv A outer s H vs Q E hr h => ?_))
  · obtain ⟨G, ⟨own0, name0, ⟨⟩⟩, r, e0, ⟨vown0, _, rfl, hown0, vname0, _, rfl, hname0, rfl⟩, h, k⟩ := h
    rfl
  · obtain ⟨G, ⟨own0, name0, ⟨⟩⟩, r, e0, ⟨vown0, _, rfl, hown0, vname0, _, rfl, hname0, rfl⟩, h, k⟩ := h
    cases hname0
    have w0 := Wo.start e0
    have h : m__law_found own0 name0 = some r := h
    unfold m__law_found at h
    refine ⟨_, PSs.nox (pss_cons (ps_for PassesOwn.never rfl (pi_list (pv 0)) (pg_name (i := 2) nd rfl (Or.inl rfl)) (pss_cons (ps_if (pt_cmpR op_eq (pe_ix (r := rIxT K) ix_tup (pv 2) pe_int (fun _ _ => rfl)) (pv 1) (nomark _)) (pss_cons (ps_ret (pe_ix (r := rIxT K) ix_tup (pv 2) pe_int (fun _ _ => rfl))) pss_nil) pss_nil) pss_nil)) (pss_cons (ps_ret pe_non) pss_nil)), ?_⟩
    obtain ⟨xs1628, hx1629, h⟩ := bindS h
    obtain ⟨t1631, hx1632, h⟩ := bindS h
    refine x_forL w0 (e_var (R := (rL (rP rS rI))) (x := own0) rfl hown0) hx1629 (fun i G' H' σ' => ∃ s1633 : Unit, ∃ u1634 : Option V, Wo G H [] G' H' [] ∧ Evl.Ex G G' ∧ σ' = [some vown0, some (V.str name0), u1634] ∧ forL (m__law_found_b1 name0) (xs1628.drop i) s1633 = some t1631) (fun _ _ _ _ ⟨_, _, w, _⟩ => w.ex) ?_ ?_ ?_
    · intro G' H' w' e'
      exact ⟨(), (none), w', e', rfl, hx1632⟩
    · rintro G1645 e1646 i1642 x1643 v1647 σ' G1638 H1641 hx1644 e1649 ⟨s1633, u1634, w1639, e1640, rfl, hm1636⟩ r1648
      obtain ⟨q1637, hb1635, hm1636⟩ := forL_at hx1644 hm1636
      have h1650 := Rep.mono _ e1640 hown0
      refine g_name ?_
      unfold m__law_found_b1 at hb1635
      obtain ⟨b1651, hx1652, hb1635⟩ := bindS hb1635
      refine x_if w1639 (et_T (e_op rr_eqS (e_fst (e_var (R := (rP rS rI)) (x := x1643) rfl (Rep.mono _ w1639.ex r1648))) (e_var (R := rS) (x := name0) rfl rfl))) hx1652 ?_ ?_
      · intro hbb1651 H1653 w1654
        subst hbb1651
        have hb1635 := bifT hb1635
        obtain ⟨a1655, hx1656, hb1635⟩ := bindS hb1635
        have hb1635 : some (Stp.rt a1655) = some q1637 := hb1635
        cases hb1635
        have hm1636 : some (Sum.inr a1655) = some t1631 := hm1636
        cases hm1636
        have h : a1655 = r := Option.some.inj h
        subst h
        exact x_ret w1654 (e_some (e_snd (e_var (R := (rP rS rI)) (x := x1643) rfl r1648))) hx1656 (fun v9 H9 G9 w9 e9 r9 => k v9 H9 G9 w9.upE r9)
      · intro hbb1651 H1657 w1658
        subst hbb1651
        have hb1635 := bifF hb1635
        refine x_next ?_
        refine x_next ?_
        have hb1635 : Stp.nx () = q1637 := Option.some.inj hb1635
        subst hb1635
        exact ⟨G1638, (e1649.trans (Evl.Ex.refl _)), (), (some v1647), w1658, e1640, rfl, hm1636⟩
    · rintro σ' G1659 H1662 e1663 ⟨s1633, u1634, w1660, e1661, rfl, hm1636⟩
      have hm1636 := forL_end hm1636
      subst hm1636
      have h := elimL h
      have h1665 := Rep.mono _ e1661 hown0
      obtain ⟨a1666, hx1667, h⟩ := bindS h
      have h : a1666 = r := Option.some.inj h
      subst h
      exact x_ret w1660 (e_none (R := rI)) hx1667 (fun v9 H9 G9 w9 e9 r9 => k v9 H9 G9 w9.upE r9)
def m__law_listed (asks0 : (List (Str × Int))) (own0 : (List (Str × Int))) : Option Bool :=
  (some ((!true) || (!decide (asks0 = own0))) >>= fun b1668 => bif b1668 then (some false >>= fun a1672 => some a1672) else ((mapS (fun x1679 => some true) asks0 >>= fun t1685 => some (t1685.all id)) >>= fun a1686 => some a1686))
theorem sc__law_listed : FnScope ["_law_asks", "_law_own", "_law_pair"] ["_law_asks", "_law_own"] (defScope s__law_listed) := ⟨rfl, rfl, rfl, by decide +kernel, rfl, by decide +kernel, by decide +kernel⟩
theorem ok__law_listed (T : Tx K mg) : Fk P w K mg base CX0 1 "_law_listed" ["_law_asks", "_law_own"] (PF (aC (rL (rP rS rI)) (aC (rL (rP rS rI)) aN)) rB (fun i => m__law_listed i.1 i.2.1)) := by
  obtain ⟨fd, F⟩ := T.def_ 26 rfl
  have nd := sc__law_listed.nd
  refine fk_mk T.toTx (x := "_law_listed") (T.glo 31 rfl) F (fun _ _ _ _ _ _ us hl => match us, hl with | [_, _], _ => rfl) (F.ok sc__law_listed (fun vs H Q E h => ?_) (fun cdv A outer s H vs Q E hr h => ?_))
  · obtain ⟨G, ⟨asks0, own0, ⟨⟩⟩, r, e0, ⟨vasks0, _, rfl, hasks0, vown0, _, rfl, hown0, rfl⟩, h, k⟩ := h
    rfl
  · obtain ⟨G, ⟨asks0, own0, ⟨⟩⟩, r, e0, ⟨vasks0, _, rfl, hasks0, vown0, _, rfl, hown0, rfl⟩, h, k⟩ := h
    have w0 := Wo.start e0
    have h : m__law_listed asks0 own0 = some r := h
    unfold m__law_listed at h
    refine ⟨_, PSs.nox (pss_cons (ps_if (PW.pt (pw_or (pt_not (pt_val (pe_callB (r := rIsi K) call_isi (by rfl) (fr_isinstance T) (by decide +kernel) (pa_cons (pv 0) (pa_cons (pe_bltn (v := .ty "list") (by rfl) (fr_list T) (by decide +kernel) rfl) pa_nil))))) (pw_or1 (pt_cmpR (r := rNeP K) (op_neP hr.units) (pv 0) (pv 1) (nomark _))))) (pss_cons (ps_ret pe_bl) pss_nil) pss_nil) (pss_cons (ps_ret (pe_callB (r := rAll K) (cr_all rfl) (by rfl) (fr_all T) (by decide +kernel) (pa_cons (pe_lc (own := [("_law_pair", 2)]) (by rfl) nd (show L2.PI _ _ _ (iList K _) from pi_list (pv 0)) (blkOk_by (by kernel_rfl)) (fun _ _ _ _ _ => pg_name (i := 2) nd rfl (by first | exact Or.inl rfl | exact Or.inr rfl)) (fun _ _ _ _ _ => pts_nil) (fun _ _ _ _ _ => (pe_callB (r := rIsi K) call_isi (by rfl) (fr_isinstance T) (by decide +kernel) (pa_cons (pv 2) (pa_cons (pe_bltn (v := .ty "tuple") (by rfl) (fr_tuple T) (by decide +kernel) rfl) pa_nil))))) pa_nil))) pss_nil)), ?_⟩
    obtain ⟨b1668, hx1669, h⟩ := bindS h
    refine x_if w0 (et_orP (et_not (et_B (e_isi (e_var (R := (rL (rP rS rI))) (x := asks0) rfl (Rep.mono _ w0.ex hasks0)) ktL (n := "list") (c := "list") (b := true) (by decide +kernel)))) (et_T (e_op (rr_neD (dtL (dtP dtS dtI)) (by decide)) (e_var (R := (rL (rP rS rI))) (x := asks0) rfl (Rep.mono _ w0.ex hasks0)) (e_var (R := (rL (rP rS rI))) (x := own0) rfl (Rep.mono _ w0.ex hown0))))) hx1669 ?_ ?_
    · intro hbb1668 H1670 w1671
      subst hbb1668
      have h := bifT h
      obtain ⟨a1672, hx1673, h⟩ := bindS h
      have h : a1672 = r := Option.some.inj h
      subst h
      exact x_ret w1671 e_bl hx1673 (fun v9 H9 G9 w9 e9 r9 => k v9 H9 G9 w9.upE r9)
    · intro hbb1668 H1674 w1675
      subst hbb1668
      have h := bifF h
      refine x_next ?_
      obtain ⟨a1686, hx1687, h⟩ := bindS h
      have h : a1686 = r := Option.some.inj h
      subst h
      exact x_ret w1675 (e_cb rc_all (ea_cons (EL.e (el_map (el_lcL (j := 2) (e_var (R := (rL (rP rS rI))) (x := asks0) rfl hasks0) (fun _ => rfl) (fun _ _ _ _ _ _ _ _ => et_yes) (fun x1679 v1682 G1680 W1681 eG1676 eW1677 eX1678 h1683 => (e_isi (e_var (R := (rP rS rI)) (x := x1679) rfl h1683) ktP (n := "tuple") (c := "tuple") (b := true) (by decide +kernel)))))) ea_nil)) (by first | (simp only [be1, bs1, ba1] at hx1687 ⊢; exact hx1687) | exact hx1687) (fun v9 H9 G9 w9 e9 r9 => k v9 H9 G9 w9.upE r9)
theorem sc_Asker___init__ : FnScope ["self", "order"] ["self", "order"] (defScope s_Asker___init__) := ⟨rfl, rfl, rfl, by decide +kernel, rfl, by decide +kernel, by decide +kernel⟩
theorem ok_Asker___init___TableAsker (T : Tx K mg) : Fm P w K mg base CX0 1 "Asker" "__init__" ["self", "order"] (PIA (He.ga K "TableAsker") (aC (r_Order K) aN) (rP rS rI) ns_Asker (fl_Asker K) (fun i => some i.1)) := by
  obtain ⟨fd, F⟩ := T.def_ 0 rfl
  have nd := sc_Asker___init__.nd
  refine fm_mk F (fun _ _ _ _ _ _ us hl => match us, hl with | [_, _], _ => rfl) (F.ok sc_Asker___init__ (fun vs H Q E h => ?_) (fun cdv A outer s H vs Q E hr h => ?_))
  · obtain ⟨G, l, _, ⟨order0, ⟨⟩⟩, r, rfl, wd, ⟨vorder0, _, rfl, horder0, rfl⟩, h, k⟩ := h
    rfl
  · obtain ⟨G, l, _, ⟨order0, ⟨⟩⟩, r, rfl, wd, ⟨vorder0, _, rfl, horder0, rfl⟩, h, k⟩ := h
    have w0 : Wo G H [l] G H _ := Wo.startC wd
    have h : some order0 = some r := h
    cases h
    refine ⟨_, PSs.nox (pss_cons (ps_fld (pv 0) (pv 1) rfl) (pss_cons (ps_fld (pv 0) (pe_lst pa_nil) rfl) pss_nil)), ?_⟩
    refine x_fldN (j := 0) w0 rfl rfl (e_var (R := r_Order K) (x := order0) rfl horder0) rfl (T.cls 53 rfl) (T.noat 54 rfl) (by decide +kernel) (by decide) ?_
    intro H1 G1 w1 e1
    have w1 : Wo G H [l] G1 H1 [(l, cI (He.ga K "TableAsker") ["order"] [pd (r_Order K) order0])] := w1
    refine x_fldL (j := 0) w1 rfl rfl (el_disp (R := rP rS rI) eal_nil) rfl (T.cls 53 rfl) (T.noat 55 rfl) (by decide) (by decide +kernel) ?_
    intro p H2 G2 n2 w2 e2
    refine x_next ?_
    exact k _ _ p n2 w2.f w2.w
def m_TableAsker_look (self0 : m_TableAsker) (asks0 : List (Str × Int)) (name0 : Str) : Option (Xn ⊕ Int) :=
  (andO (some self0.2.2.isSome) (self0.2.2 >>= fun al => some (!al.any fun z => z == name0))) >>= fun b => bif b then some (Sum.inl ⟨"NoSide", [("name", .str name0)]⟩) else
    (m_Order_least self0.1 >>= fun t => some ((lookM self0.2.1 name0).getD t)) >>= fun v => (m_Order___contains__ self0.1 v >>= fun z => some (!z)) >>= fun b => bif b then some (Sum.inl ⟨"NotElement", [("value", .int v)]⟩) else some (Sum.inr v)
theorem sc_TableAsker_look : FnScope ["self", "name", "value"] ["self", "name"] (defScope s_TableAsker_look) := ⟨rfl, rfl, rfl, by decide +kernel, rfl, by decide +kernel, by decide +kernel⟩
theorem ok_TableAsker_look (T : Tx K mg) : Fm P w K mg base (L2.CX P w) 3 "TableAsker" "look" ["self", "name"] (PXB K (aC (rS_TableAsker K) (aC rS aN)) (fun i => i.1.1) (rP rS rI) rI (fun ys i => m_TableAsker_look i.1.2 ys i.2.1)) := by
  obtain ⟨fI_NoSide, b_NoSide, F_NoSide⟩ := okx_NoSide (w := w) (base := base) T
  have Y_NoSide := known_NoSide T
  have g_NoSide := T.glo 8 rfl
  obtain ⟨fI_NotElement, b_NotElement, F_NotElement⟩ := okx_NotElement (w := w) (base := base) T
  have Y_NotElement := known_NotElement T
  have g_NotElement := T.glo 3 rfl
  obtain ⟨fd_least, G_least, b_least⟩ := ok_Order_least (w := w) (base := base) T
  obtain ⟨fd_cont, G_cont, b_cont⟩ := ok_Order___contains__ (w := w) (base := base) T
  obtain ⟨fd, F⟩ := T.def_ 2 rfl
  have nd := sc_TableAsker_look.nd
  refine fm_mk F (fun _ _ _ _ _ _ us hl => match us, hl with | [_, _], _ => rfl) (F.ok sc_TableAsker_look (fun vs H Q E h => ?_) (fun cdv A outer s H vs Q E hr h => ?_))
  · obtain ⟨G, ⟨⟨l, o0⟩, name0, ⟨⟩⟩, ys, r, e0, ⟨vself0, _, rfl, hself0, vname0, _, rfl, hname0, rfl⟩, L0, h, kx, k⟩ := h
    rfl
  · obtain ⟨G, ⟨⟨l, o0⟩, name0, ⟨⟩⟩, ys, r, e0, ⟨vself0, _, rfl, hself0, vname0, _, rfl, hname0, rfl⟩, L0, h, kx, k⟩ := h
    cases hname0
    have w0 := Wo.start e0
    have h : m_TableAsker_look o0 ys name0 = some r := h
    unfold m_TableAsker_look at h
    have tk := takes_of (X := cxOf (L2.CX P w) P w K mg base ["self", "name", "value"] "TableAsker.look" (defScope s_TableAsker_look) (He.fAd K ("TableAsker", some "look")) cdv A outer s H E) rfl rfl rfl (E := E) rfl
    refine ⟨_, (pss_cons (ps_if (PW.pt (pw_and (pt_cmpR op_notN (show L2.PE _ _ (tFld K _ _) from pe_fld (pv 0) (by rfl)) pe_non (nomark _)) (pw_and1 (pt_cmpR (r := rIn K true) op_notIn_seq (pv 1) (show L2.PE _ _ (tFld K _ _) from pe_fld (pv 0) (by rfl)) (by rfl))))) (pss_cons (ps_raise rfl tk (pmk_oex Y_NoSide.oex Y_NoSide.ini Y_NoSide.ty F_NoSide (hr.mono (by decide)) b_NoSide .nil pass0 rfl g_NoSide (pa_cons (pv 1) pa_nil))) pss_nil) pss_nil) (pss_cons (ps_set (i := 2) nd rfl (Or.inl rfl) (pe_dget2 (hu_of hr) (show L2.PE _ _ (tFld K _ _) from pe_fld (pv 0) (by rfl)) (pv 1) (pe_prop (show L2.PE _ _ (tFld K _ _) from pe_fld (pv 0) (by rfl)) (T.cls 47 rfl) ((T.ge 0 rfl).1 rfl) G_least (hr.mono (by decide)) b_least .nil pass0 rfl) ⟨rfl, rfl, rfl, rfl⟩)) (pss_cons (ps_if (pt_cmpR (op_notInO G_cont (hr.mono (by decide)) (T.meth 58 rfl) b_cont) (pv 2) (show L2.PE _ _ (tFld K _ _) from pe_fld (pv 0) (by rfl)) (by rfl)) (pss_cons (ps_raise rfl tk (pmk_oex Y_NotElement.oex Y_NotElement.ini Y_NotElement.ty F_NotElement (hr.mono (by decide)) b_NotElement .nil pass0 rfl g_NotElement (pa_cons (pv 2) pa_nil))) pss_nil) pss_nil) (pss_cons (ps_ret (pv 2)) pss_nil)))), ?_⟩
    obtain ⟨b1, hx1, h⟩ := bindS h
    refine x_if w0 (et_and (et_T (e_op (rr_notN nnL) (e_fld 3 (fun (o : Addr × m_TableAsker) => o.2.2.2) (e_var (R := rS_TableAsker K) (x := (l, o0)) rfl (Rep.mono _ w0.ex hself0)) (T.cls 53 rfl) (T.noat 57 rfl) (by decide +kernel) (fun _ => rfl)) e_non)) (et_T (e_op (rr_ninL flS) (e_var (R := rS) (x := name0) rfl rfl) (e_get (e_fld 3 (fun (o : Addr × m_TableAsker) => o.2.2.2) (e_var (R := rS_TableAsker K) (x := (l, o0)) rfl (Rep.mono _ w0.ex hself0)) (T.cls 53 rfl) (T.noat 57 rfl) (by decide +kernel) (fun _ => rfl)))))) (by first | exact hx1 | (simp only [be1, bs1, ba1] at hx1 ⊢; exact hx1)) ?_ ?_
    · intro hbb1 H1 w1
      subst hbb1
      have h := bifT h
      cases h
      refine x_raise (A := (aC rS aN)) (i := (name0, ())) w1 (ea_cons (e_var (R := rS) (x := name0) rfl rfl) ea_nil) rfl (fun G9 vs9 r9 => by obtain ⟨u0, _, rfl, q0, rfl⟩ := r9; exact ⟨rfl, by simp⟩) ?_
      intro vs9 H9 G9 d9 w9 r9 e9 hd9
      obtain ⟨u0, _, rfl, q0, rfl⟩ := r9
      exact kx _ rfl d9 H9 G9 w9.upE (Xat_mk (names := ["name"]) (xs := [.str name0]) (by decide) hd9 (.cons q0 .nil))
    · intro hbb1 H1 w1
      subst hbb1
      have h := bifF h
      refine x_next ?_
      obtain ⟨v2, hx2, h⟩ := bindS h
      refine x_setI w1 (e_dget2 kyS injS (e_fld 2 (fun (o : Addr × m_TableAsker) => o.2.2.1) (e_var (R := rS_TableAsker K) (x := (l, o0)) rfl hself0) (T.cls 53 rfl) (T.noat 56 rfl) (by decide +kernel) (fun _ => rfl)) (e_var (R := rS) (x := name0) rfl rfl) (e_prop (e_fld 0 (fun (o : Addr × m_TableAsker) => o.2.1) (e_var (R := rS_TableAsker K) (x := (l, o0)) rfl hself0) (T.cls 53 rfl) (T.noat 54 rfl) (by decide +kernel) (fun _ => rfl)))) (by first | exact hx2 | (simp only [be1, bs1, ba1] at hx2 ⊢; exact hx2)) ?_
      intro H2 w2
      obtain ⟨b3, hx3, h⟩ := bindS h
      refine x_if w2 (et_T (e_op (rr_inO (g := (!·))) (e_var (R := rI) (x := v2) rfl rfl) (e_fld 0 (fun (o : Addr × m_TableAsker) => o.2.1) (e_var (R := rS_TableAsker K) (x := (l, o0)) rfl (Rep.mono _ w2.ex hself0)) (T.cls 53 rfl) (T.noat 54 rfl) (by decide +kernel) (fun _ => rfl)))) (by first | exact hx3 | (simp only [be1, bs1, ba1] at hx3 ⊢; exact hx3)) ?_ ?_
      · intro hbb3 H3 w3
        subst hbb3
        have h := bifT h
        cases h
        refine x_raise (A := (aC rI aN)) (i := (v2, ())) w3 (ea_cons (e_var (R := rI) (x := v2) rfl rfl) ea_nil) rfl (fun G9 vs9 r9 => by obtain ⟨u0, _, rfl, q0, rfl⟩ := r9; exact ⟨rfl, by simp⟩) ?_
        intro vs9 H9 G9 d9 w9 r9 e9 hd9
        obtain ⟨u0, _, rfl, q0, rfl⟩ := r9
        exact kx _ rfl d9 H9 G9 w9.upE (Xat_mk (names := ["value"]) (xs := [.int v2]) (by decide) hd9 (.cons q0 .nil))
      · intro hbb3 H3 w3
        subst hbb3
        have h := bifF h
        cases h
        refine x_next ?_
        exact x_ret w3 (e_var (R := rI) (x := v2) rfl rfl) rfl (fun v9 H9 G9 w9 e9 r9 => k _ rfl v9 H9 G9 w9.upE r9)
def m_call_b1 (name0 : Str) (x : Str × Int) (s : Unit) : Option (Stp Unit Int) := some (decide (x.1 = name0)) >>= fun b => bif b then some (Stp.rt x.2) else some (Stp.nx ())
def m_call (look : List (Str × Int) → Str → Option (Xn ⊕ Int)) (asks0 : List (Str × Int)) (name0 : Str) : Option ((Xn ⊕ Int) × List (Str × Int)) :=
  forL (m_call_b1 name0) asks0 () >>= Sum.elim (fun _ => look asks0 name0 >>= fun r => Sum.elim (fun e => some (Sum.inl e, asks0)) (fun v => appM asks0 (name0, v) >>= fun a => some (Sum.inr v, a)) r) (fun v => some (Sum.inr v, asks0))
theorem sc_Asker___call__ : FnScope ["self", "name", "asked", "answer", "found"] ["self", "name"] (defScope s_Asker___call__) := ⟨rfl, rfl, rfl, by decide +kernel, rfl, by decide +kernel, by decide +kernel⟩
theorem ok_Asker___call___TableAsker (T : Tx K mg) : Fm P w K mg base (L2.CX P w) 4 "Asker" "__call__" ["self", "name"] (PXA K (aC (rS_TableAsker K) (aC rS aN)) (fun i => i.1.1) (rP rS rI) rI (fun i ys => m_call (m_TableAsker_look i.1.2) ys i.2.1)) := by
  obtain ⟨fd_look, G_look, b_look⟩ := ok_TableAsker_look (w := w) (base := base) T
  obtain ⟨fd, F⟩ := T.def_ 1 rfl
  have nd := sc_Asker___call__.nd
  refine fm_mk F (fun _ _ _ _ _ _ us hl => match us, hl with | [_, _], _ => rfl) (F.ok sc_Asker___call__ (fun vs H Q E h => ?_) (fun cdv A outer s H vs Q E hr h => ?_))
  · obtain ⟨G, ⟨⟨l, o0⟩, name0, ⟨⟩⟩, ys, r, ys2, ⟨vself0, _, rfl, hself0, vname0, _, rfl, hname0, rfl⟩, wd, h, kx, k⟩ := h
    rfl
  · obtain ⟨G, ⟨⟨l, o0⟩, name0, ⟨⟩⟩, ys, r, ys2, ⟨vself0, _, rfl, hself0, vname0, _, rfl, hname0, rfl⟩, wd, h, kx, k⟩ := h
    cases hname0
    have w0 : Wo G H [] G H [] := Wo.start wd.ex
    have L0 : Lent G H l (rP rS rI) ys := (Wo.startC wd).lent (i := 0) rfl
    have h : m_call (m_TableAsker_look o0) ys name0 = some (r, ys2) := h
    unfold m_call at h
    have tk := takes_of (X := cxOf (L2.CX P w) P w K mg base ["self", "name", "asked", "answer", "found"] "Asker.__call__" (defScope s_Asker___call__) (He.fAd K ("Asker", some "__call__")) cdv A outer s H E) rfl rfl rfl (E := E) rfl
    refine ⟨_, (pss_cons (ps_for (passes_of rfl) rfl (show L2.PI _ _ _ (iList K _) from pi_list (pe_fld (pv 0) rfl)) (pg_tup (by rfl) (pgs_cons (pg_name (i := 2) nd rfl (by first | exact Or.inl rfl | exact Or.inr rfl)) (pgs_cons (pg_name (i := 3) nd rfl (by first | exact Or.inl rfl | exact Or.inr rfl)) pgs_nil))) (pss_cons (ps_if (pt_cmpR op_eq (pv 2) (pv 1) (nomark _)) (pss_cons (ps_ret (pv 3)) pss_nil) pss_nil) pss_nil)) (pss_cons (ps_set (i := 4) nd rfl (Or.inl rfl) (pe_methT (pv 0) (T.cls 53 rfl) (T.meth 59 rfl) G_look (hr.mono (by decide)) b_look (passAt tk) (pa_cons (pv 1) pa_nil))) (pss_cons (ps_expr (pe_bm PySem.F.plainAttrs_list PySem.F.slot_list_append PySem.F.type_list_append mt_append (show L2.PE _ _ (tFld K _ _) from pe_fld (pv 0) (by rfl)) (pa_cons (pe_tup (pa_cons (pv 1) (pa_cons (pv 4) pa_nil))) pa_nil))) (pss_cons (ps_ret (pv 4)) pss_nil)))), ?_⟩
    obtain ⟨t1, ht1, h⟩ := bindS h
    refine x_forNE w0 L0 (e_fld (S := rA) 1 (fun (o : Addr × m_TableAsker) => o.1) (e_var (R := rS_TableAsker K) (x := (l, o0)) rfl hself0) (T.cls 53 rfl) (T.noat 55 rfl) (by decide +kernel) (fun _ => rfl)) (fun i G' H' σ' => ∃ u2 u3 : Option V, Wo G H [] G' H' [] ∧ Evl.Ex G G' ∧ σ' = [some vself0, some (V.str name0), u2, u3, none] ∧ forL (m_call_b1 name0) (ys.drop i) () = some t1) (fun _ _ _ _ ⟨_, _, w, _⟩ => w) ?_ ?_ ?_
    · intro G' H' w' e'
      exact ⟨none, none, w', e', rfl, ht1⟩
    · rintro i1 x1 v1 σ' G1 H1 hx1 ⟨u2, u3, w1, e1, rfl, hm1⟩ r1
      obtain ⟨q1, hb1, hm1⟩ := forL_at hx1 hm1
      refine g_pair (i := 2) (j := 3) r1 w1.ex ?_
      intro v2 v3 r2 r3
      cases r2
      cases r3
      unfold m_call_b1 at hb1
      obtain ⟨b4, hx4, hb1⟩ := bindS hb1
      refine x_if w1 (et_T (e_op rr_eqS (e_var (R := rS) (x := x1.1) rfl rfl) (e_var (R := rS) (x := name0) rfl rfl))) hx4 ?_ ?_
      · intro hbb4 H5 w5
        subst hbb4
        have hb1 := bifT hb1
        cases hb1
        have hm1 : some (Sum.inr x1.2) = some t1 := hm1
        cases hm1
        have h : some ((Sum.inr x1.2 : Xn ⊕ Int), ys) = some (r, ys2) := h
        cases h
        refine x_ret w5 (e_var (R := rI) (x := x1.2) rfl rfl) rfl (fun v9 H9 G9 w9 e9 r9 => ?_)
        have w10 := Wo.own1 w9 L0
        exact k _ rfl v9 H9 G9 w10.f (w10.sub1 (i := 0) rfl) r9
      · intro hbb4 H5 w5
        subst hbb4
        have hb1 := bifF hb1
        refine x_next ?_
        refine x_next ?_
        have hb1 : Stp.nx () = q1 := Option.some.inj hb1
        subst hb1
        exact ⟨G1, _, _, w5, e1, rfl, hm1⟩
    · rintro σ' G1 H1 ⟨u2, u3, w1, e1, rfl, hm1⟩
      have hm1 := forL_end hm1
      subst hm1
      have h := elimL h
      have h1 := Rep.mono _ e1 hself0
      obtain ⟨r2, hx2, h⟩ := bindS h
      refine x_setX w1 (ex_methB (ad := fun i => i.1.1) (e_var (R := rS_TableAsker K) (x := (l, o0)) rfl h1) (ea_cons (e_var (R := rS) (x := name0) rfl rfl) ea_nil) (w1.lentOf L0 List.not_mem_nil) (fun _ _ h1 _ => by cases h1; rfl) (by decide +kernel)) hx2 ?_ ?_
      · intro e3 he3 d3 H3 G3 w3 e4 xa3
        subst he3
        have h := sumL h
        have h : some ((Sum.inl e3 : Xn ⊕ Int), ys) = some (r, ys2) := h
        cases h
        have w10 := Wo.own1 w3 L0
        exact kx _ rfl d3 H3 G3 w10.f (w10.sub1 (i := 0) rfl) xa3
      · intro x3 he3 v3 H3 G3 w3 e4 r3
        subst he3
        have h := sumR h
        cases r3
        obtain ⟨a5, hx5, h⟩ := bindS h
        have h : some ((Sum.inr x3 : Xn ⊕ Int), a5) = some (r, ys2) := h
        cases h
        obtain ⟨hs5, rfl⟩ := appM_ok hx5
        have w4 := Wo.own1 w3 L0
        have h4 := Rep.mono _ e4 h1
        refine x_appE (j := 0) w4 rfl hs5 (e_fld (S := rA) 1 (fun (o : Addr × m_TableAsker) => o.1) (e_var (R := rS_TableAsker K) (x := (l, o0)) rfl h4) (T.cls 53 rfl) (T.noat 55 rfl) (by decide +kernel) (fun _ => rfl)) (e_pair (e_var (R := rS) (x := name0) rfl rfl) (e_var (R := rI) (x := x3) rfl rfl)) rfl ?_
        intro H6 G6 w6 e6
        exact x_ret w6 (e_var (R := rI) (x := x3) rfl rfl) rfl (fun v9 H9 G9 w9 e9 r9 => k _ rfl v9 H9 G9 w9.f (w9.sub1 (i := 0) rfl) r9)
theorem ns9_TableAsker : NdefX.NScope ["self", "order", "table", "allowed", "__class__"] ["self", "order", "table", "allowed"] ["__class__"] (defScope s_TableAsker___init__) := NdefX.nscope_by (by decide +kernel)
def m_TableAsker___init__ (order0 : m_Order) (table0 : List (Str × Int)) (allowed0 : Option (List Str)) : Option m_TableAsker := some (order0, table0, allowed0)
theorem ok_TableAsker___init__ (T : Tx K mg) : ∃ fd, FnOk P w K mg base CX0 2 (xcAd K "TableAsker") fd ["self", "order", "table", "allowed"] (PIAT (He.ga K "TableAsker") (r_Order K) (rM Sum.inr rI) (rO (rL rS)) (rP rS rI) ns_TableAsker (fl_TableAsker K) m_TableAsker___init__) ∧ Binds K fd ["self", "order", "table", "allowed"] [] ∧ Binds K fd ["self", "order", "table", "allowed"] [.none] := by
  obtain ⟨fd, cc, c, Y⟩ := SpD.known (T.spd 0 rfl).1 (T.spd 0 rfl).2 (fr_super T) (by decide +kernel) (by decide +kernel) (by decide +kernel) rfl (by decide +kernel)
  obtain ⟨fdg, Gg, bg⟩ := ok_Asker___init___TableAsker (w := w) (base := base) T
  refine ⟨fd, ?_, ?_, ?_⟩
  · refine fn_sup (k := 1) ns9_TableAsker Y Gg bg rfl (fun _ => rfl) (fun _ => rfl) (fun _ => rfl) (fun _ => rfl) (fun vs H Q E h => ?_) (fun A outer s H vs Q E hr h => ?_)
    · obtain ⟨G, l, vo, vt, va, order0, table0, allowed0, r, rfl, wd, ho, ht, ha, h, k⟩ := h
      rfl
    · obtain ⟨G, l, vo, vt, va, order0, table0, allowed0, r, rfl, wd, ho, ht, ha, h, k⟩ := h
      have h : some (order0, table0, allowed0) = some r := h
      cases h
      obtain ⟨_, o, hol, dx, fs, rfl, hfl⟩ := wd.head
      refine ⟨l, _, dx, fs, rfl, hol, _, _, pa_cons (pe_var (i := 1) rfl (Or.inl rfl)) pa_nil, PSs.nox (pss_cons (ps_fld (pe_var (i := 0) rfl (Or.inl rfl)) (pe_callTy (r := rDcD) call_dictD (by rfl) (fr_dict T) (by decide +kernel) (pa_cons (pe_var (i := 2) rfl (Or.inl rfl)) pa_nil)) rfl) (pss_cons (ps_fld (pe_var (i := 0) rfl (Or.inl rfl)) pe_non rfl) (pss_cons (ps_if (pt_cmpR op_notN (pe_var (i := 3) rfl (Or.inl rfl)) pe_non (nomark _)) (pss_cons (ps_fld (pe_var (i := 0) rfl (Or.inl rfl)) (pe_callTy (r := rLs K) call_list_of (by rfl) (fr_list T) (by decide +kernel) (pa_cons (pe_var (i := 3) rfl (Or.inl rfl)) pa_nil)) rfl) pss_nil) pss_nil) pss_nil))), ?_⟩
      refine o_cons (o_var rfl (o_nil ?_))
      refine ⟨G, l, [vo], (order0, ()), order0, rfl, wd, ⟨_, _, rfl, ho, rfl⟩, rfl, fun H2 G2 p np fr w2 => ?_⟩
      have w3 : Wo G H [l] G2 H2 [(p, cL (rP rS rI) []), (l, cI (He.ga K "TableAsker") ["order", "asks"] [pd (r_Order K) order0, pd rA p])] := ⟨w2, fr, fun c hc => by
        rcases List.mem_cons.mp hc with rfl | hc
        · exact .inr np
        · rw [List.mem_singleton.mp hc]; exact .inl (List.mem_singleton.mpr rfl)⟩
      have kp : (rM Sum.inr rI).r H2 vt table0 := keepM scI ht fun a ws h => fr.fr a _ h (by
        intro z
        rw [List.mem_singleton.mp z, hol] at h
        cases h)
      refine x_fldN (j := 1) w3 rfl rfl (EC.e fzM (EC.s scI w3.ex (ec_dictM (e_var (i := 2) (v := vt) (R := rM Sum.inr rI) (x := table0) rfl kp)))) rfl (T.cls 53 rfl) (T.noat 56 rfl) (by decide +kernel) (by decide) ?_
      intro H4 G4 w4 e4
      refine x_fldN (j := 1) w4 rfl rfl (e_none (R := rL rS)) rfl (T.cls 53 rfl) (T.noat 57 rfl) (by decide +kernel) (by decide) ?_
      intro H5 G5 w5 e5
      have kl : ∀ H' G', Fr G H G' H' [l] → (rO (rL rS)).r H' va allowed0 := fun H' G' f => keepO ha fun y h => keepL scS h fun a ws h => f.fr a _ h (by
        intro z
        rw [List.mem_singleton.mp z, hol] at h
        cases h)
      refine x_if w5 (et_T (e_op (rr_notN nnL) (e_var (i := 3) (R := rO (rL rS)) (x := allowed0) rfl (kl _ _ w5.f)) e_non)) rfl ?_ ?_
      · intro hb6 H6 w6
        cases allowed0 with
        | none => cases hb6
        | some al =>
          refine x_fldU (j := 1) (n := 3) w6 rfl rfl (e_some (EL.e (EL.s scS (el_cb rc_listL (ea_cons (e_var (i := 3) (R := rL rS) (x := al) rfl (kl _ _ w6.f)) ea_nil))))) rfl (T.cls 53 rfl) (T.noat 57 rfl) (by decide +kernel) (by decide) ?_
          intro H7 G7 w7 e7
          refine x_next ?_
          exact k _ _ p np w7.f w7.w
      · intro hb6 H6 w6
        cases allowed0 with
        | some al => cases hb6
        | none =>
          refine x_next ?_
          exact k _ _ p np w6.f w6.w
  · obtain ⟨ds, hds, b⟩ := Y.binds1 4 1 (by intro z; cases z) rfl (fun T kV doc pm an ct us its h1 h2 => match us, h1, its, h2 with | [_, _, _, _], _, [_], _ => ⟨_, rfl, rfl⟩)
    cases hds
    exact b
  · obtain ⟨ds, hds, b⟩ := Y.binds1 3 0 (by intro z; cases z) rfl (fun T kV doc pm an ct us its h1 h2 => match us, h1, its, h2 with | [_, _, _], _, [_], _ => ⟨_, rfl, rfl⟩)
    cases hds with
    | cons h1 h2 =>
      cases h1
      cases h2
      exact b
def m__law_table_answer (o0 : m_TableAsker) (name0 : Str) (directly0 : Bool) (ys : List (Str × Int)) : Option (PyData × List (Str × Int)) :=
  ((bif directly0 then (m_TableAsker_look o0 ys name0 >>= fun r => some (r, ys)) else m_call (m_TableAsker_look o0) ys name0) >>= fun p => Sum.elim (fun e => (bif (["NoSide"] : List Str).contains e.cls then (xS e "name" >>= fun nm => some ((PyData.tuple [PyData.str ("side" : Str), PyData.str nm], (none : Option Int)), p.2)) else (bif (["NotElement"] : List Str).contains e.cls then (xI e "value" >>= fun nm => some ((PyData.tuple [PyData.str ("element" : Str), PyData.int nm], (none : Option Int)), p.2)) else none))) (fun v => some ((PyData.none, some v), p.2)) p.1) >>= fun s =>
  ((andO (some (noneD s.1.1)) (s.1.2 >>= fun v => m__law_int v)) >>= fun b => bif b then (s.1.2 >>= fun v => some (PyData.tuple [PyData.str ("told" : Str), PyData.int v])) else some s.1.1) >>= fun d => some (d, s.2)
theorem sc__law_table_answer : FnScope ["_law_asker", "_law_name", "_law_directly", "_law_got", "_law_value", "e"] ["_law_asker", "_law_name", "_law_directly"] (defScope s__law_table_answer) := ⟨rfl, rfl, rfl, by decide +kernel, rfl, by decide +kernel, by decide +kernel⟩
theorem ok__law_table_answer (T : Tx K mg) : Fk P w K mg base CX0 6 "_law_table_answer" ["_law_asker", "_law_name", "_law_directly"] (PQ (aC (rS_TableAsker K) (aC rS (aC rB aN))) (fun i => i.1.1) (rP rS rI) (rD K) (fun i ys => m__law_table_answer i.1.2 i.2.1 i.2.2.1 ys)) := by
  obtain ⟨fd_look, G_look, b_look⟩ := ok_TableAsker_look (w := w) (base := base) T
  obtain ⟨fd_call, G_call, b_call⟩ := ok_Asker___call___TableAsker (w := w) (base := base) T
  obtain ⟨fd__law_int, G__law_int, b__law_int, k__law_int, g__law_int⟩ := ok__law_int (w := w) (base := base) T
  have M_call : L2.Meth K (He.ga K "TableAsker") "__call__" (He.ma K (He.ga K "Asker") "__call__") := by
    have := (T.meth 60 rfl)
    rw [eqm_ok (T.mo 3 rfl)] at this
    exact this
  have fn_call := fnm_ok (T.mo 4 rfl)
  obtain ⟨fd, F⟩ := T.def_ 24 rfl
  have nd := sc__law_table_answer.nd
  refine fk_mk T.toTx (x := "_law_table_answer") (T.glo 29 rfl) F (fun _ _ _ _ _ _ us hl => match us, hl with | [_, _, _], _ => rfl) (F.ok sc__law_table_answer (fun vs H Q E h => ?_) (fun cdv A outer s H vs Q E hr h => ?_))
  · obtain ⟨G, ⟨⟨l, o0⟩, name0, directly0, ⟨⟩⟩, ys, r, ys2, ⟨vself0, _, rfl, hself0, vn0, _, rfl, hname0, vd0, _, rfl, hd0, rfl⟩, wd, h, k⟩ := h
    rfl
  · obtain ⟨G, ⟨⟨l, o0⟩, name0, directly0, ⟨⟩⟩, ys, r, ys2, ⟨vself0, _, rfl, hself0, vn0, _, rfl, hname0, vd0, _, rfl, hd0, rfl⟩, wd, h, k⟩ := h
    cases hname0
    cases hd0
    have w0 : Wo G H [l] G H [(l, cL (rP rS rI) ys)] := Wo.startC wd
    have h : m__law_table_answer o0 name0 directly0 ys = some (r, ys2) := h
    unfold m__law_table_answer at h
    refine ⟨_, PSs.nox (pss_cons (ps_set (i := 3) nd rfl (Or.inl rfl) pe_non) (pss_cons (ps_set (i := 4) nd rfl (Or.inl rfl) pe_non) (Evl.pss_cut (ps_tryA nd rfl rfl takes_no (fun _ _ _ tk1 po1 => (pss_cons (ps_if (pt_val (pv 2)) (pss_cons (ps_set (i := 4) nd rfl (Or.inl rfl) (pe_methT (pv 0) (T.cls 53 rfl) (T.meth 59 rfl) G_look (hr.mono (by decide)) b_look (passAt tk1) (pa_cons (pv 1) pa_nil))) pss_nil) (pss_cons (ps_set (i := 4) nd rfl (Or.inl rfl) (pe_callO (i := 0) (S := (fun C => if C = He.ga K "TableAsker" then some (PXA K (aC (rS_TableAsker K) (aC rS aN)) (fun i => i.1.1) (rP rS rI) rI (fun i ys => m_call (m_TableAsker_look i.1.2) ys i.2.1)) else none)) rfl (Or.inl rfl) (held_if ⟨_, _, _, M_call, fn_call, G_call, b_call⟩) (hr.mono (by decide)) (passAt tk1) (pa_cons (pv 1) pa_nil))) pss_nil)) pss_nil)) (HdsA.as_ (i := 5) ⟨by rfl, by decide, Or.inl (T.glo 8 rfl)⟩ rfl rfl (fun a0 oe0 cls0 d0 pn0 z0 f0 => (pss_cons (ps_set (i := 3) nd rfl (Or.inl rfl) (pe_tup (pa_cons pe_str (pa_cons (pe_xz z0 f0 (pv 5)) pa_nil)))) pss_nil)) (HdsA.as_ (i := 5) ⟨by rfl, by decide, Or.inl (T.glo 3 rfl)⟩ rfl rfl (fun a1 oe1 cls1 d1 pn1 z1 f1 => (pss_cons (ps_set (i := 3) nd rfl (Or.inl rfl) (pe_tup (pa_cons pe_str (pa_cons (pe_xz z1 f1 (pv 5)) pa_nil)))) pss_nil)) HdsA.nil))) (pss_cons (ps_if (PW.pt (pw_and (pt_cmpR op_isN (pv 3) pe_non (nomark _)) (pw_and1 (pt_val (pe_call G__law_int (hr.mono (by decide)) rfl g__law_int k__law_int b__law_int .nil pass0 (pa_cons (pv 4) pa_nil)))))) (pss_cons (ps_set (i := 3) nd rfl (Or.inl rfl) (pe_tup (pa_cons pe_str (pa_cons (pv 4) pa_nil)))) pss_nil) pss_nil) (pss_cons (ps_ret (pv 3)) pss_nil))))), ?_⟩
    refine x_set w0 (e_nonD (K := K)) rfl ?_
    intro v1 H1 G1 w1 e1 h1
    refine x_set w1 (e_none (R := rI)) rfl ?_
    intro v2 H2 G2 w2 e2 h2
    have hs2 := Rep.mono _ (e1.trans e2) hself0
    have h1 := Rep.mono _ e2 h1
    obtain ⟨s1, hx1, h⟩ := bindS h
    refine o_cut (fun σ' H' => ∃ (v3 v4 : V) (u5 : Option V) (G' : Hp), Wo G H [l] G' H' [(l, cL (rP rS rI) s1.2)] ∧ Evl.Ex G2 G' ∧ σ' = [some vself0, some (V.str name0), some (V.bl directly0), some v3, some v4, u5] ∧ (rD K).r G' v3 s1.1.1 ∧ (rO rI).r G' v4 s1.1.2) ?_ ?_
    · refine o_try ?_
      obtain ⟨p1, hp1, hx1⟩ := bindS hx1
      refine x_if w2 (et_B (e_var (R := rB) (x := directly0) rfl rfl)) rfl ?_ ?_
      · intro hb3 H3 w3
        subst hb3
        have hp1 := bifT hp1
        obtain ⟨r3, hr3, hp1⟩ := bindS hp1
        cases hp1
        refine x_setX w3 (ex_methB (ad := fun i => i.1.1) (e_var (R := rS_TableAsker K) (x := (l, o0)) rfl hs2) (ea_cons (e_var (R := rS) (x := name0) rfl rfl) ea_nil) (w3.lent (i := 0) rfl) (fun _ _ h1 _ => by cases h1; rfl) (by decide +kernel)) hr3 ?_ ?_
        · intro e3 he3 d3 H4 G4 w4 e4 xa4
          subst he3
          have hx1 := sumL hx1
          rcases bifO hx1 with ⟨hc1, hx1⟩ | ⟨_, hx1⟩
          · refine ⟨true, xa_ok (T.mo 5 rfl) hc1, fun _ ax1 naax1 => ?_, fun z => nomatch z⟩
            obtain ⟨nm9, hnm9, hx1⟩ := bindS hx1
            cases hx1
            refine x_set w4 (e_toD (K := K) (e_pair e_str (e_xzS (a := ax1) rfl xa4 (xs_ok (T.mo 6 rfl) hc1).2 (xn_ok (T.mo 7 rfl) hc1 (by decide)))) (dtP dtS dtS) (by decide)) (by rw [hnm9]; rfl) ?_
            intro v9 H9 G9 w9 e9 h9
            refine x_next ?_
            exact ⟨v9, v2, none, G9, w9, e4.trans e9, rfl, h9, Rep.mono _ ((e4).trans e9) h2⟩
          · skip
            rcases bifO hx1 with ⟨hc1, hx1⟩ | ⟨_, hx1⟩
            · refine ⟨false, xa_ok (T.mo 11 rfl) hc1, fun z => Bool.noConfusion z, fun _ => ?_⟩
              refine ⟨true, xa_ok (T.mo 8 rfl) hc1, fun _ ax1 naax1 => ?_, fun z => nomatch z⟩
              obtain ⟨nm9, hnm9, hx1⟩ := bindS hx1
              cases hx1
              refine x_set w4 (e_toD (K := K) (e_pair e_str (e_xz (a := ax1) rfl xa4 (xs_ok (T.mo 9 rfl) hc1).2 (xn_ok (T.mo 10 rfl) hc1 (by decide)))) (dtP dtS dtI) (by decide)) (by rw [hnm9]; rfl) ?_
              intro v9 H9 G9 w9 e9 h9
              refine x_next ?_
              exact ⟨v9, v2, none, G9, w9, e4.trans e9, rfl, h9, Rep.mono _ ((e4).trans e9) h2⟩
            · skip
              cases hx1
        · intro x3 he3 v3 H4 G4 w4 e4 r4
          subst he3
          have hx1 := sumR hx1
          cases hx1
          refine x_next ?_
          refine x_next ?_
          exact ⟨v1, v3, none, G4, w4, e4, rfl, Rep.mono _ e4 h1, r4⟩
      · intro hb3 H3 w3
        subst hb3
        have hp1 := bifF hp1
        obtain ⟨r3, z3⟩ := p1
        obtain ⟨a, dx, fs, rfl, hG, hfl⟩ := id hs2
        refine x_setO ?_
        refine ⟨a, He.ga K "TableAsker", dx, fs, _, rfl, w3.ex _ _ hG, if_pos rfl, ?_⟩
        refine o_cons (o_var rfl (o_nil ?_))
        refine ⟨⟨fs, w3.ex _ _ hG⟩, ?_⟩
        refine c_pxa (j := 0) (i := ((l, o0), (name0, ()))) w3 rfl ⟨_, _, rfl, hs2, _, _, rfl, rfl, rfl⟩ hp1 ?_ ?_
        · intro e3 he3 d3 H4 G4 w4 e4 xa4
          subst he3
          have hx1 := sumL hx1
          rcases bifO hx1 with ⟨hc1, hx1⟩ | ⟨_, hx1⟩
          · refine ⟨true, xa_ok (T.mo 5 rfl) hc1, fun _ ax1 naax1 => ?_, fun z => nomatch z⟩
            obtain ⟨nm9, hnm9, hx1⟩ := bindS hx1
            cases hx1
            refine x_set w4 (e_toD (K := K) (e_pair e_str (e_xzS (a := ax1) rfl xa4 (xs_ok (T.mo 6 rfl) hc1).2 (xn_ok (T.mo 7 rfl) hc1 (by decide)))) (dtP dtS dtS) (by decide)) (by rw [hnm9]; rfl) ?_
            intro v9 H9 G9 w9 e9 h9
            refine x_next ?_
            exact ⟨v9, v2, none, G9, w9, e4.trans e9, rfl, h9, Rep.mono _ ((e4).trans e9) h2⟩
          · skip
            rcases bifO hx1 with ⟨hc1, hx1⟩ | ⟨_, hx1⟩
            · refine ⟨false, xa_ok (T.mo 11 rfl) hc1, fun z => Bool.noConfusion z, fun _ => ?_⟩
              refine ⟨true, xa_ok (T.mo 8 rfl) hc1, fun _ ax1 naax1 => ?_, fun z => nomatch z⟩
              obtain ⟨nm9, hnm9, hx1⟩ := bindS hx1
              cases hx1
              refine x_set w4 (e_toD (K := K) (e_pair e_str (e_xz (a := ax1) rfl xa4 (xs_ok (T.mo 9 rfl) hc1).2 (xn_ok (T.mo 10 rfl) hc1 (by decide)))) (dtP dtS dtI) (by decide)) (by rw [hnm9]; rfl) ?_
              intro v9 H9 G9 w9 e9 h9
              refine x_next ?_
              exact ⟨v9, v2, none, G9, w9, e4.trans e9, rfl, h9, Rep.mono _ ((e4).trans e9) h2⟩
            · skip
              cases hx1
        · intro x3 he3 v3 H4 G4 w4 e4 r4
          subst he3
          have hx1 := sumR hx1
          cases hx1
          refine x_next ?_
          refine x_next ?_
          exact ⟨v1, v3, none, G4, w4, e4, rfl, Rep.mono _ e4 h1, r4⟩
    · rintro σ' H6 ⟨v3, v4, u5, G6, w6, e6, rfl, h3, h4⟩
      obtain ⟨⟨g6, ov6⟩, z6⟩ := s1
      obtain ⟨d7, hx7, h⟩ := bindS h
      cases h
      obtain ⟨b8, hx8, hx7⟩ := bindS hx7
      refine x_if w6 (et_and (et_T (e_op rr_isND (e_var (R := rD K) (x := g6) rfl (Rep.mono _ w6.ex h3)) e_non)) (et_B (e_call (ea_cons (e_get (e_var (R := rO rI) (x := ov6) rfl (Rep.mono _ w6.ex h4))) ea_nil)))) (by first | exact hx8 | (simp only [be1, bs1, ba1] at hx8 ⊢; exact hx8)) ?_ ?_
      · intro hb8 H7 w7
        subst hb8
        have hx7 := bifT hx7
        obtain ⟨v8, hv8, hx7⟩ := bindS hx7
        have hv8 : ov6 = some v8 := hv8
        subst hv8
        refine x_set w7 (e_toD (K := K) (e_pair e_str (e_get (e_var (R := rO rI) (x := some v8) rfl h4))) (dtP dtS dtI) (by decide)) hx7 ?_
        intro v9 H9 G9 w9 e9 h9
        refine x_next ?_
        exact x_ret w9 (e_var (R := rD K) (x := r) rfl h9) rfl (fun v9 H9 G9 w9 e9 r9 => k v9 H9 G9 w9.f (w9.sub1 (i := 0) rfl) r9)
      · intro hb8 H7 w7
        subst hb8
        have hx7 := bifF hx7
        cases hx7
        refine x_next ?_
        exact x_ret w7 (e_var (R := rD K) (x := g6) rfl h3) rfl (fun v9 H9 G9 w9 e9 r9 => k v9 H9 G9 w9.f (w9.sub1 (i := 0) rfl) r9)
def m__law_spoilt_table_b1 (size0 : Int) (x1713 : Str) (s1702 : ((List Int) × (List (Str × Int)))) : Option ((List Int) × (List (Str × Int))) :=
  (some (5 : Int) >>= fun x1721 => (m__law_draw s1702.1 x1721 >>= fun x1726 => ((some (x1726.1 == (2 : Int)) >>= fun b1735 => bif b1735 then ((powM (10 : Int) (17 : Int) >>= fun t1850 => some ([size0, (size0 + (2 : Int)), t1850, (-(1 : Int))])) >>= fun x1851 => (some (4 : Int) >>= fun x1861 => (m__law_draw x1726.2 x1861 >>= fun x1866 => (atI x1851 x1866.1 >>= fun x1876 => (some x1713 >>= fun k1886 => putMM s1702.2 k1886 x1876 >>= fun table_1887 => some (x1866.2, table_1887)))))) else ((some (!(x1726.1 == (1 : Int))) >>= fun b1898 => bif b1898 then (some size0 >>= fun x1930 => (m__law_draw x1726.2 x1930 >>= fun x1935 => (some x1713 >>= fun k1944 => putMM s1702.2 k1944 x1935.1 >>= fun table_1945 => some (x1935.2, table_1945)))) else some (x1726.2, s1702.2)) >>= fun s1922 => some (s1922.1, s1922.2))) >>= fun s1842 => some ((s1842.1, s1842.2)))))
def m__law_spoilt_table (pot_here0 : (List Int)) (names_here0 : (List Str)) (size0 : Int) : Option ((List (Str × Int)) × (List Int)) :=
  (some ([] : (List (Str × Int))) >>= fun table_1688 => (some names_here0 >>= fun xs1697 => forS (m__law_spoilt_table_b1 size0) xs1697 (pot_here0, table_1688) >>= fun s1702 => some (s1702.2, s1702.1)))
theorem sc__law_spoilt_table : FnScope ["_law_pot_here", "_law_names_here", "_law_size", "_law_table", "_law_name", "_law_kind"] ["_law_pot_here", "_law_names_here", "_law_size"] (defScope s__law_spoilt_table) := ⟨rfl, rfl, rfl, by decide +kernel, rfl, by decide +kernel, by decide +kernel⟩
theorem ok__law_spoilt_table (T : Tx K mg) : Fk P w K mg base CX0 2 "_law_spoilt_table" ["_law_pot_here", "_law_names_here", "_law_size"] (P1C (aC (rL rS) (aC rI aN)) rI (cM Sum.inr rI) (fun ys i => m__law_spoilt_table ys i.1 i.2.1)) := by
  obtain ⟨fd__law_draw, G__law_draw, b__law_draw, k__law_draw, g__law_draw⟩ := ok__law_draw (w := w) (base := base) T
  obtain ⟨fd, F⟩ := T.def_ 22 rfl
  have nd := sc__law_spoilt_table.nd
  refine fk_mk T.toTx (x := "_law_spoilt_table") (T.glo 27 rfl) F (fun _ _ _ _ _ _ us hl => match us, hl with | [_, _, _], _ => rfl) (F.ok sc__law_spoilt_table (fun vs H Q E h => ?_) (fun cdv A outer s H vs Q E hr h => ?_))
  · obtain ⟨G, ⟨l, ⟨names_here0, size0, ⟨⟩⟩⟩, pot_here0, r, k', ⟨_, _, rfl, rfl, ⟨vnames_here0, _, rfl, hnames_here0, vsize0, _, rfl, hsize0, rfl⟩⟩, wd, h, k⟩ := h
    rfl
  · obtain ⟨G, ⟨l, ⟨names_here0, size0, ⟨⟩⟩⟩, pot_here0, r, k', ⟨_, _, rfl, rfl, ⟨vnames_here0, _, rfl, hnames_here0, vsize0, _, rfl, hsize0, rfl⟩⟩, wd, h, k⟩ := h
    cases hsize0
    have w0 : Wo G H [l] G H _ := Wo.startC wd
    have h : m__law_spoilt_table pot_here0 names_here0 size0 = some (r, k') := h
    unfold m__law_spoilt_table at h
    refine ⟨_, PSs.nox (pss_cons (ps_set (i := 3) nd rfl (Or.inl rfl) pe_dnewK) (pss_cons (ps_for PassesOwn.never rfl (pi_list (pv 1)) (pg_name (i := 4) nd rfl (Or.inl rfl)) (pss_cons (ps_set (i := 5) nd rfl (Or.inl rfl) (pe_call G__law_draw (hr.mono (by decide)) rfl g__law_draw k__law_draw b__law_draw .nil pass0 (pa_cons (pv 0) (pa_cons pe_int pa_nil)))) (Evl.pss_cut (ps_if (pt_cmpR op_eq (pv 5) pe_int (nomark _)) (pss_cons (ps_dput (hu_of hr) (pv 3) (pv 4) (pe_ix (r := rIxL K) ix_list (pe_lst (pa_cons (pv 2) (pa_cons (pe_op op_add (pv 2) pe_int) (pa_cons (pe_op op_pow pe_int pe_int) (pa_cons (pe_un un_neg pe_int) pa_nil))))) (pe_call G__law_draw (hr.mono (by decide)) rfl g__law_draw k__law_draw b__law_draw .nil pass0 (pa_cons (pv 0) (pa_cons pe_int pa_nil))) (fun _ _ => rfl)) rfl) pss_nil) (Evl.pss_cut (ps_if (pt_cmpR op_ne (pv 5) pe_int (nomark _)) (pss_cons (ps_dput (hu_of hr) (pv 3) (pv 4) (pe_call G__law_draw (hr.mono (by decide)) rfl g__law_draw k__law_draw b__law_draw .nil pass0 (pa_cons (pv 0) (pa_cons (pv 2) pa_nil))) rfl) pss_nil) pss_nil) pss_nil)) pss_nil))) (pss_cons (ps_ret (pv 3)) pss_nil))), ?_⟩
    obtain ⟨table_1688, hx1689, h⟩ := bindS h
    refine x_setC w0 (ec_dnew (kf := Sum.inr) (R := rI)) hx1689 ?_
    intro p1692 H1690 G1693 n1694 w1691 e1695
    have h1696 := Rep.mono _ e1695 hnames_here0
    obtain ⟨xs1697, hx1698, h⟩ := bindS h
    obtain ⟨t1700, hx1701, h⟩ := bindS h
    refine x_forL w1691 (e_var (R := (rL rS)) (x := names_here0) rfl h1696) hx1698 (fun i G' H' σ' => ∃ s1702 : ((List Int) × (List (Str × Int))), ∃ u1703 : Option V, ∃ u1704 : Option V, Wo G H [l] G' H' [(p1692, cM Sum.inr rI s1702.2), (l, cL rI s1702.1)] ∧ Evl.Ex G1693 G' ∧ σ' = [some (V.ref l), some vnames_here0, some (V.int size0), some (V.ref p1692), u1704, u1703] ∧ forS (m__law_spoilt_table_b1 size0) (xs1697.drop i) s1702 = some t1700) (fun _ _ _ _ ⟨_, _, _, w, _⟩ => w.ex) ?_ ?_ ?_
    · intro G' H' w' e'
      exact ⟨(pot_here0, table_1688), (none), (none), w', e', rfl, hx1701⟩
    · rintro G1715 e1716 i1712 x1713 v1717 σ' G1708 H1711 hx1714 e1719 ⟨s1702, u1703, u1704, w1709, e1710, rfl, hm1706⟩ r1718
      obtain ⟨q1707, hb1705, hm1706⟩ := forS_at hx1714 hm1706
      have h1720 := Rep.mono _ e1710 h1696
      refine g_name ?_
      cases r1718
      unfold m__law_spoilt_table_b1 at hb1705
      refine x_setO ?_
      refine o_call ?_
      refine o_cons ?_
      refine o_var rfl ?_
      refine o_cons ?_
      obtain ⟨x1721, hx1722, hb1705⟩ := bindS hb1705
      refine c_i w1709 e_int hx1722 ?_
      intro H1723 w1724
      refine o_nil ?_
      obtain ⟨x1726, hx1727, hb1705⟩ := bindS hb1705
      refine c_p1 (i := 1) (j := (x1721, ())) w1724 rfl ⟨_, _, rfl, rfl, rfl⟩ hx1727 ?_
      intro u1728 H1729 G1730 w1731 e1732 r1733
      have h1734 := Rep.mono _ e1732 h1720
      cases r1733
      have w1731 : Wo G H [l] G1730 H1729 [(p1692, cM Sum.inr rI s1702.2), (l, cL rI x1726.2)] := w1731
      obtain ⟨s1842, hx1843, hb1705⟩ := bindS hb1705
      refine o_cut (fun σ' H' => ∃ G' : Hp, Wo G H [l] G' H' [(p1692, cM Sum.inr rI s1842.2), (l, cL rI s1842.1)] ∧ Evl.Ex G1730 G' ∧ σ' = [some (V.ref l), some vnames_here0, some (V.int size0), some (V.ref p1692), some (V.str x1713), some (V.int x1726.1)]) ?_ ?_
      · obtain ⟨b1735, hx1847, hx1843⟩ := bindS hx1843
        refine x_if w1731 (et_T (e_op rr_eqI (e_var (R := rI) (x := x1726.1) rfl rfl) e_int)) hx1847 ?_ ?_
        · intro hbb1735 H1848 w1849
          subst hbb1735
          have hx1843 := bifT hx1843
          refine x_putO ?_
          refine o_op ?_
          obtain ⟨x1851, hx1852, hx1843⟩ := bindS hx1843
          refine c_e w1849 (EL.e (el_disp (eal_cons (e_var (R := rI) (x := size0) rfl rfl) (eal_cons (e_op rr_add (e_var (R := rI) (x := size0) rfl rfl) e_int) (eal_cons (e_op rr_pow e_int e_int) (eal_cons (e_neg e_int) eal_nil)))))) (by first | (simp only [be1, bs1, ba1] at hx1852 ⊢; exact hx1852) | exact hx1852) ?_
          intro v1855 H1853 G1856 w1854 e1857 h1858
          have h1859 := Rep.mono _ e1857 h1734
          refine o_call ?_
          refine o_cons ?_
          refine o_var rfl ?_
          refine o_cons ?_
          obtain ⟨x1861, hx1862, hx1843⟩ := bindS hx1843
          refine c_i w1854 e_int hx1862 ?_
          intro H1863 w1864
          refine o_nil ?_
          obtain ⟨x1866, hx1867, hx1843⟩ := bindS hx1843
          refine c_p1 (i := 1) (j := (x1861, ())) w1864 rfl ⟨_, _, rfl, rfl, rfl⟩ hx1867 ?_
          intro u1868 H1869 G1870 w1871 e1872 r1873
          have h1874 := Rep.mono _ e1872 h1859
          have h1875 := Rep.mono _ e1872 h1858
          cases r1873
          have w1871 : Wo G H [l] G1870 H1869 [(p1692, cM Sum.inr rI s1702.2), (l, cL rI x1866.2)] := w1871
          obtain ⟨x1876, hx1877, hx1843⟩ := bindS hx1843
          refine c_rr rr_ixL w1871 h1875 rfl hx1877 ?_
          intro u1878 H1879 G1880 w1881 e1882 r1883
          have h1884 := Rep.mono _ e1882 h1874
          have h1885 := Rep.mono _ e1882 h1875
          cases r1883
          obtain ⟨k1886, hx1888, hx1843⟩ := bindS hx1843
          obtain ⟨table_1887, hx1889, hx1843⟩ := bindS hx1843
          refine o_putM kyS injS (j := 0) w1881 rfl rfl rfl (e_var (R := rS) (x := x1713) rfl rfl) (by first | (simp only [be1, bs1, ba1] at hx1888 ⊢; exact hx1888) | exact hx1888) hx1889 ?_
          intro H1890 G1891 w1892 e1893
          have h1894 := Rep.mono _ e1893 h1884
          have h1895 := Rep.mono _ e1893 h1885
          have w1892 : Wo G H [l] G1891 H1890 [(p1692, cM Sum.inr rI table_1887), (l, cL rI x1866.2)] := w1892
          refine x_next ?_
          have hx1843 : (x1866.2, table_1887) = s1842 := Option.some.inj hx1843
          subst hx1843
          exact ⟨G1891, w1892, (((e1857.trans e1872).trans e1882).trans e1893), rfl⟩
        · intro hbb1735 H1896 w1897
          subst hbb1735
          have hx1843 := bifF hx1843
          obtain ⟨s1922, hx1923, hx1843⟩ := bindS hx1843
          refine o_cut (fun σ' H' => ∃ G' : Hp, Wo G H [l] G' H' [(p1692, cM Sum.inr rI s1922.2), (l, cL rI s1922.1)] ∧ Evl.Ex G1730 G' ∧ σ' = [some (V.ref l), some vnames_here0, some (V.int size0), some (V.ref p1692), some (V.str x1713), some (V.int x1726.1)]) ?_ ?_
          · obtain ⟨b1898, hx1927, hx1923⟩ := bindS hx1923
            refine x_if w1897 (et_T (e_op rr_neI (e_var (R := rI) (x := x1726.1) rfl rfl) e_int)) hx1927 ?_ ?_
            · intro hbb1898 H1928 w1929
              subst hbb1898
              have hx1923 := bifT hx1923
              refine x_putO ?_
              refine o_call ?_
              refine o_cons ?_
              refine o_var rfl ?_
              refine o_cons ?_
              obtain ⟨x1930, hx1931, hx1923⟩ := bindS hx1923
              refine c_i w1929 (e_var (R := rI) (x := size0) rfl rfl) hx1931 ?_
              intro H1932 w1933
              refine o_nil ?_
              obtain ⟨x1935, hx1936, hx1923⟩ := bindS hx1923
              refine c_p1 (i := 1) (j := (x1930, ())) w1933 rfl ⟨_, _, rfl, rfl, rfl⟩ hx1936 ?_
              intro u1937 H1938 G1939 w1940 e1941 r1942
              have h1943 := Rep.mono _ e1941 h1734
              cases r1942
              have w1940 : Wo G H [l] G1939 H1938 [(p1692, cM Sum.inr rI s1702.2), (l, cL rI x1935.2)] := w1940
              obtain ⟨k1944, hx1946, hx1923⟩ := bindS hx1923
              obtain ⟨table_1945, hx1947, hx1923⟩ := bindS hx1923
              refine o_putM kyS injS (j := 0) w1940 rfl rfl rfl (e_var (R := rS) (x := x1713) rfl rfl) hx1946 hx1947 ?_
              intro H1948 G1949 w1950 e1951
              have h1952 := Rep.mono _ e1951 h1943
              have w1950 : Wo G H [l] G1949 H1948 [(p1692, cM Sum.inr rI table_1945), (l, cL rI x1935.2)] := w1950
              refine x_next ?_
              have hx1923 : (x1935.2, table_1945) = s1922 := Option.some.inj hx1923
              subst hx1923
              exact ⟨G1949, w1950, (e1941.trans e1951), rfl⟩
            · intro hbb1898 H1953 w1954
              subst hbb1898
              have hx1923 := bifF hx1923
              refine x_next ?_
              have hx1923 : (x1726.2, s1702.2) = s1922 := Option.some.inj hx1923
              subst hx1923
              exact ⟨G1730, w1954, (Evl.Ex.refl _), rfl⟩
          · rintro σ' H1957 ⟨G1955, w1925, e1924, rfl⟩
            have h1956 := Rep.mono _ e1924 h1734
            refine x_next ?_
            have hx1843 : (s1922.1, s1922.2) = s1842 := Option.some.inj hx1843
            subst hx1843
            exact ⟨G1955, w1925, e1924, rfl⟩
      · rintro σ' H1960 ⟨G1958, w1845, e1844, rfl⟩
        have h1959 := Rep.mono _ e1844 h1734
        refine x_next ?_
        have hb1705 : (s1842.1, s1842.2) = q1707 := Option.some.inj hb1705
        subst hb1705
        exact ⟨G1958, (e1719.trans (e1732.trans e1844)), (s1842.1, s1842.2), (some (V.int x1726.1)), (some (V.str x1713)), w1845, ((e1710.trans e1732).trans e1844), rfl, hm1706⟩
    · rintro σ' G1961 H1964 e1965 ⟨s1702, u1703, u1704, w1962, e1963, rfl, hm1706⟩
      have hm1706 := forS_end hm1706
      subst hm1706
      have h1967 := Rep.mono _ e1963 h1696
      obtain ⟨h8, h9⟩ : s1702.2 = r ∧ s1702.1 = k' := Prod.mk.inj (Option.some.inj h)
      subst h8
      subst h9
      refine x_retO (o_var rfl ?_)
      exact k _ _ _ n1694 w1962.f (w1962.sub2 (i := 0) (j := 1) rfl rfl (by decide))
def m__law_looked (table0 : (List (Str × Int))) (allowed0 : (Option (List Str))) (name0 : Str) (masks_here0 : (List Int)) : Option PyData :=
  ((andO (some allowed0.isSome) ((allowed0 >>= fun t1968 => some (!t1968.any fun z => z == name0)))) >>= fun b1969 => bif b1969 then (some (PyData.tuple [PyData.str (("side" : Str), name0).1, PyData.str (("side" : Str), name0).2]) >>= fun a1973 => some a1973) else (((minL masks_here0 >>= fun t1977 => idxM (fun a b => a == b) masks_here0 t1977) >>= fun t1978 => some ((lookM table0 name0).getD t1978)) >>= fun value_1979 => (some ((decide (value_1979 < (0 : Int))) || (decide ((masks_here0.length : Int) ≤ value_1979))) >>= fun b1983 => bif b1983 then (some (PyData.tuple [PyData.str (("element" : Str), value_1979).1, PyData.int (("element" : Str), value_1979).2]) >>= fun a1987 => some a1987) else (some (PyData.tuple [PyData.str (("told" : Str), value_1979).1, PyData.int (("told" : Str), value_1979).2]) >>= fun a1991 => some a1991))))
theorem sc__law_looked : FnScope ["_law_table", "_law_allowed", "_law_name", "_law_masks_here", "_law_value"] ["_law_table", "_law_allowed", "_law_name", "_law_masks_here"] (defScope s__law_looked) := ⟨rfl, rfl, rfl, by decide +kernel, rfl, by decide +kernel, by decide +kernel⟩
theorem ok__law_looked (T : Tx K mg) : Fk P w K mg base CX0 1 "_law_looked" ["_law_table", "_law_allowed", "_law_name", "_law_masks_here"] (PF (aC (rM Sum.inr rI) (aC (rO (rL rS)) (aC rS (aC (rL rI) aN)))) (rD K) (fun i => m__law_looked i.1 i.2.1 i.2.2.1 i.2.2.2.1)) := by
  obtain ⟨fd, F⟩ := T.def_ 23 rfl
  have nd := sc__law_looked.nd
  refine fk_mk T.toTx (x := "_law_looked") (T.glo 28 rfl) F (fun _ _ _ _ _ _ us hl => match us, hl with | [_, _, _, _], _ => rfl) (F.ok sc__law_looked (fun vs H Q E h => ?_) (fun cdv A outer s H vs Q E hr h => ?_))
  · obtain ⟨G, ⟨table0, allowed0, name0, masks_here0, ⟨⟩⟩, r, e0, ⟨vtable0, _, rfl, htable0, vallowed0, _, rfl, hallowed0, vname0, _, rfl, hname0, vmasks_here0, _, rfl, hmasks_here0, rfl⟩, h, k⟩ := h
    rfl
  · obtain ⟨G, ⟨table0, allowed0, name0, masks_here0, ⟨⟩⟩, r, e0, ⟨vtable0, _, rfl, htable0, vallowed0, _, rfl, hallowed0, vname0, _, rfl, hname0, vmasks_here0, _, rfl, hmasks_here0, rfl⟩, h, k⟩ := h
    cases hname0
    have w0 := Wo.start e0
    have h : m__law_looked table0 allowed0 name0 masks_here0 = some r := h
    unfold m__law_looked at h
    refine ⟨_, PSs.nox (pss_cons (ps_if (PW.pt (pw_and (pt_cmpR op_notN (pv 1) pe_non (nomark _)) (pw_and1 (pt_cmpR (r := rIn K true) op_notIn_seq (pv 2) (pv 1) (by rfl))))) (pss_cons (ps_ret (pe_tup (pa_cons pe_str (pa_cons (pv 2) pa_nil)))) pss_nil) pss_nil) (pss_cons (ps_set (i := 4) nd rfl (Or.inl rfl) (pe_dget2 (hu_of hr) (pv 0) (pv 2) (pe_bm PySem.F.plainAttrs_list PySem.F.slot_list_index PySem.F.type_list_index mt_index (pv 3) (pa_cons (pe_callB (r := rMin K) (cr_min rfl) (by rfl) (fr_min T) (by decide +kernel) (pa_cons (pv 3) pa_nil)) pa_nil)) ⟨rfl, rfl, rfl, rfl⟩)) (pss_cons (ps_if (PW.pt (pw_or (pt_cmpR op_lt (pv 4) pe_int (nomark _)) (pw_or1 (pt_cmpR op_ge (pv 4) (pe_callB (r := rLn K) call_len_seq (by rfl) (fr_len T) (by decide +kernel) (pa_cons (pv 3) pa_nil)) (nomark _))))) (pss_cons (ps_ret (pe_tup (pa_cons pe_str (pa_cons (pv 4) pa_nil)))) pss_nil) pss_nil) (pss_cons (ps_ret (pe_tup (pa_cons pe_str (pa_cons (pv 4) pa_nil)))) pss_nil)))), ?_⟩
    obtain ⟨b1969, hx1970, h⟩ := bindS h
    refine x_if w0 (et_and (et_T (e_op (rr_notN nnL) (e_var (R := (rO (rL rS))) (x := allowed0) rfl (Rep.mono _ w0.ex hallowed0)) e_non)) (et_T (e_op (rr_ninL flS) (e_var (R := rS) (x := name0) rfl rfl) (e_get (e_var (R := (rO (rL rS))) (x := allowed0) rfl (Rep.mono _ w0.ex hallowed0)))))) (by first | (simp only [be1, bs1, ba1] at hx1970 ⊢; exact hx1970) | exact hx1970) ?_ ?_
    · intro hbb1969 H1971 w1972
      subst hbb1969
      have h := bifT h
      obtain ⟨a1973, hx1974, h⟩ := bindS h
      have h : a1973 = r := Option.some.inj h
      subst h
      exact x_ret w1972 (e_toD (K := K) (e_pair e_str (e_var (R := rS) (x := name0) rfl rfl)) (dtP dtS dtS) (by decide)) hx1974 (fun v9 H9 G9 w9 e9 r9 => k v9 H9 G9 w9.upE r9)
    · intro hbb1969 H1975 w1976
      subst hbb1969
      have h := bifF h
      refine x_next ?_
      obtain ⟨value_1979, hx1980, h⟩ := bindS h
      refine x_setI w1976 (e_dget2 kyS injS (e_var (R := (rM Sum.inr rI)) (x := table0) rfl htable0) (e_var (R := rS) (x := name0) rfl rfl) (e_bmL (rbm_index flI) (e_var (R := (rL rI)) (x := masks_here0) rfl hmasks_here0) (ea_cons (e_cb rc_minL (ea_cons (e_var (R := (rL rI)) (x := masks_here0) rfl hmasks_here0) ea_nil)) ea_nil))) (by first | (simp only [be1, bs1, ba1] at hx1980 ⊢; exact hx1980) | exact hx1980) ?_
      intro H1981 w1982
      obtain ⟨b1983, hx1984, h⟩ := bindS h
      refine x_if w1982 (et_orP (et_T (e_op rr_lt (e_var (R := rI) (x := value_1979) rfl rfl) e_int)) (et_T (e_op rr_ge (e_var (R := rI) (x := value_1979) rfl rfl) (e_cb rc_lenL (ea_cons (e_var (R := (rL rI)) (x := masks_here0) rfl (Rep.mono _ w1982.ex hmasks_here0)) ea_nil))))) hx1984 ?_ ?_
      · intro hbb1983 H1985 w1986
        subst hbb1983
        have h := bifT h
        obtain ⟨a1987, hx1988, h⟩ := bindS h
        have h : a1987 = r := Option.some.inj h
        subst h
        exact x_ret w1986 (e_toD (K := K) (e_pair e_str (e_var (R := rI) (x := value_1979) rfl rfl)) (dtP dtS dtI) (by decide)) hx1988 (fun v9 H9 G9 w9 e9 r9 => k v9 H9 G9 w9.upE r9)
      · intro hbb1983 H1989 w1990
        subst hbb1983
        have h := bifF h
        refine x_next ?_
        obtain ⟨a1991, hx1992, h⟩ := bindS h
        have h : a1991 = r := Option.some.inj h
        subst h
        exact x_ret w1990 (e_toD (K := K) (e_pair e_str (e_var (R := rI) (x := value_1979) rfl rfl)) (dtP dtS dtI) (by decide)) hx1992 (fun v9 H9 G9 w9 e9 r9 => k v9 H9 G9 w9.upE r9)
def m_law_b1 (x2428 : Str) (s2420 : ((List Int) × (List Str))) : Option ((List Int) × (List Str)) :=
  (some (4 : Int) >>= fun x2444 => (m__law_draw s2420.1 x2444 >>= fun x2449 => (some (1 : Int) >>= fun x2465 => (some (!(x2449.1 == x2465)) >>= fun x2469 => (bif x2469 then (some x2428 >>= fun y2485 => appM s2420.2 y2485 >>= fun z2487 => some (x2449.2, z2487)) else some (x2449.2, s2420.2))))))
def m_law_b2 (queue_2580 : (List Str)) (x2105 : ((List (Str × Int)) × (List Int))) (s2362 : ((Option (List Str)) × (m_TableAsker × ((List (Str × Int)) × ((List Str) × (List Int)))))) (x2007 : ((List Int) × (List Int))) (other_2563 : m_TableAsker) (x2693 : Int) (s2680 : ((List (Str × Int)) × ((List (Str × Int)) × ((List Str) × ((List (Str × Int)) × ((List (Str × Int)) × ((List (Str × Int)) × (List Int)))))))) : Option (Stp ((List (Str × Int)) × ((List (Str × Int)) × ((List Str) × ((List (Str × Int)) × ((List (Str × Int)) × ((List (Str × Int)) × (List Int))))))) Bool) :=
  (some queue_2580 >>= fun x2704 => (some (queue_2580.length : Int) >>= fun x2722 => (m__law_draw s2680.2.2.2.2.2.2 x2722 >>= fun x2727 => (atI x2704 x2727.1 >>= fun x2745 => ((some (x2693 == (2 : Int)) >>= fun b2763 => bif b2763 then (some (([] : (List (Str × Int)))) >>= fun handed_2780 => (some (([] : (List Str))) >>= fun listed_here_2784 => some (([] : (List (Str × Int))), ([] : (List Str))))) else some (s2680.2.1, s2680.2.2.1)) >>= fun s2772 => (m__law_looked x2105.1 s2362.1 x2745 x2007.1 >>= fun due_2801 => (some (3 : Int) >>= fun x2818 => (m__law_draw x2727.2 x2818 >>= fun x2823 => (some (1 : Int) >>= fun x2842 => (some (x2823.1 == x2842) >>= fun x2846 => (bif x2846 then (some x2745 >>= fun x2864 => (some true >>= fun x2869 => (m__law_table_answer s2362.2.1 x2864 x2869 s2680.1 >>= fun x2874 => (some due_2801 >>= fun x2893 => (some (!PyData.eqv x2874.1 x2893) >>= fun x2912 => (bif x2912 then (some false >>= fun a2931 => some (Stp.rt a2931)) else ((m__law_listed x2874.2 s2680.2.2.2.2.1 >>= fun t2933 => some (!t2933)) >>= fun b2934 => (bif b2934 then (some false >>= fun a2938 => some (Stp.rt a2938)) else (m__law_found s2680.2.2.2.2.1 x2745 >>= fun told_2940 => ((some told_2940.isSome >>= fun b2958 => bif b2958 then (some (PyData.tuple [PyData.str (("told" : Str), told_2940).1, (dO PyData.int) (("told" : Str), told_2940).2]) >>= fun due_3057 => some (due_3057, s2680.2.2.2.2.1)) else (((ixD due_2801 0 >>= fun t3078 => some (PyData.eqv t3078 (PyData.str ("told" : Str)))) >>= fun b3079 => bif b3079 then (((ixD due_2801 1 >>= fun t3110 => intD t3110) >>= fun t3111 => some (x2745, t3111)) >>= fun a3112 => appM s2680.2.2.2.2.1 a3112 >>= fun own_3113 => some own_3113) else some s2680.2.2.2.2.1) >>= fun s3102 => some (due_2801, s3102))) >>= fun s3047 => (some x2745 >>= fun x3159 => (some false >>= fun x3164 => (m__law_table_answer s2362.2.1 x3159 x3164 x2874.2 >>= fun x3169 => (some s3047.1 >>= fun x3189 => (some (!PyData.eqv x3169.1 x3189) >>= fun x3209 => (bif x3209 then (some false >>= fun a3229 => some (Stp.rt a3229)) else ((m__law_listed x3169.2 s3047.2 >>= fun t3231 => some (!t3231)) >>= fun b3232 => (bif b3232 then (some false >>= fun a3236 => some (Stp.rt a3236)) else (((m__law_found s2680.2.2.2.2.2.1 x2745 >>= fun t3238 => some t3238.isNone) >>= fun b3239 => bif b3239 then (((minL x2007.1 >>= fun t3270 => idxM (fun a b => a == b) x2007.1 t3270) >>= fun t3271 => some (x2745, t3271)) >>= fun a3272 => appM s2680.2.2.2.2.2.1 a3272 >>= fun plain_3273 => some plain_3273) else some s2680.2.2.2.2.2.1) >>= fun s3262 => (some x2745 >>= fun x3307 => (some false >>= fun x3312 => (m__law_table_answer other_2563 x3307 x3312 s2680.2.2.2.1 >>= fun x3317 => ((((minL x2007.1 >>= fun t3337 => idxM (fun a b => a == b) x2007.1 t3337) >>= fun t3338 => some (("told" : Str), t3338)) >>= fun t3339 => some (PyData.tuple [PyData.str t3339.1, PyData.int t3339.2])) >>= fun x3340 => (some (!PyData.eqv x3317.1 x3340) >>= fun x3360 => (bif x3360 then (some false >>= fun a3380 => some (Stp.rt a3380)) else ((m__law_listed x3317.2 s3262 >>= fun t3382 => some (!t3382)) >>= fun b3383 => (bif b3383 then (some false >>= fun a3387 => some (Stp.rt a3387)) else some (Stp.nx (x3169.2, (s2772.1, (s2772.2, (x3317.2, (s3047.2, (s3262, x2823.2)))))))))))))))))))))))))))))))))) else (m__law_found s2680.2.2.2.2.1 x2745 >>= fun told_3396 => ((some told_3396.isSome >>= fun b3414 => bif b3414 then (some (PyData.tuple [PyData.str (("told" : Str), told_3396).1, (dO PyData.int) (("told" : Str), told_3396).2]) >>= fun due_3513 => some (due_3513, s2680.2.2.2.2.1)) else (((ixD due_2801 0 >>= fun t3534 => some (PyData.eqv t3534 (PyData.str ("told" : Str)))) >>= fun b3535 => bif b3535 then (((ixD due_2801 1 >>= fun t3566 => intD t3566) >>= fun t3567 => some (x2745, t3567)) >>= fun a3568 => appM s2680.2.2.2.2.1 a3568 >>= fun own_3569 => some own_3569) else some s2680.2.2.2.2.1) >>= fun s3558 => some (due_2801, s3558))) >>= fun s3503 => (some x2745 >>= fun x3615 => (some false >>= fun x3620 => (m__law_table_answer s2362.2.1 x3615 x3620 s2680.1 >>= fun x3625 => (some s3503.1 >>= fun x3645 => (some (!PyData.eqv x3625.1 x3645) >>= fun x3665 => (bif x3665 then (some false >>= fun a3685 => some (Stp.rt a3685)) else ((m__law_listed x3625.2 s3503.2 >>= fun t3687 => some (!t3687)) >>= fun b3688 => (bif b3688 then (some false >>= fun a3692 => some (Stp.rt a3692)) else (((m__law_found s2680.2.2.2.2.2.1 x2745 >>= fun t3694 => some t3694.isNone) >>= fun b3695 => bif b3695 then (((minL x2007.1 >>= fun t3726 => idxM (fun a b => a == b) x2007.1 t3726) >>= fun t3727 => some (x2745, t3727)) >>= fun a3728 => appM s2680.2.2.2.2.2.1 a3728 >>= fun plain_3729 => some plain_3729) else some s2680.2.2.2.2.2.1) >>= fun s3718 => (some x2745 >>= fun x3763 => (some false >>= fun x3768 => (m__law_table_answer other_2563 x3763 x3768 s2680.2.2.2.1 >>= fun x3773 => ((((minL x2007.1 >>= fun t3793 => idxM (fun a b => a == b) x2007.1 t3793) >>= fun t3794 => some (("told" : Str), t3794)) >>= fun t3795 => some (PyData.tuple [PyData.str t3795.1, PyData.int t3795.2])) >>= fun x3796 => (some (!PyData.eqv x3773.1 x3796) >>= fun x3816 => (bif x3816 then (some false >>= fun a3836 => some (Stp.rt a3836)) else ((m__law_listed x3773.2 s3718 >>= fun t3838 => some (!t3838)) >>= fun b3839 => (bif b3839 then (some false >>= fun a3843 => some (Stp.rt a3843)) else some (Stp.nx (x3625.2, (s2772.1, (s2772.2, (x3773.2, (s3503.2, (s3718, x2823.2)))))))))))))))))))))))))))))))))))))
def m_law (script0 : (List Int)) : Option Bool :=
  (m__law_pot script0 >>= fun pot_here_1993 => (some (6 : Int) >>= fun x2002 => (m__law_masks pot_here_1993 x2002 >>= fun x2007 => (some (x2007.1.length : Int) >>= fun size_2021 => ((m__law_pairs x2007.1 >>= fun t2025 => m_Order___init__ size_2021 t2025) >>= fun order_2026 => (some (1 : Int) >>= fun x2036 => (some (5 : Int) >>= fun x2041 => (m__law_draw x2007.2 x2041 >>= fun x2046 => (some (x2036 + x2046.1) >>= fun x2057 => (m__law_names x2046.2 x2057 >>= fun x2069 => (some x2069.1 >>= fun x2087 => (some size_2021 >>= fun x2100 => (m__law_spoilt_table x2069.2 x2087 x2100 >>= fun x2105 => (some (none : (Option (List Str))) >>= fun allowed_2126 => (some x2105.1 >>= fun handed_2139 => (m_TableAsker___init__ order_2026 handed_2139 none >>= fun asker_2153 => (some ([]) >>= fun listed_here_2169 => ((some (3 : Int) >>= fun x2375 => (m__law_draw x2105.2 x2375 >>= fun x2380 => (some (0 : Int) >>= fun x2396 => (some (!(x2380.1 == x2396)) >>= fun x2400 => (bif x2400 then (catM x2069.1 ([("stranger10" : Str)]) >>= fun xs2415 => forS (m_law_b1) xs2415 (x2380.2, []) >>= fun s2420 => (((some s2420.2) >>= fun t2518 => some t2518) >>= fun listed_here_2519 => (m_TableAsker___init__ order_2026 handed_2139 (some listed_here_2519) >>= fun asker_2536 => some ((some s2420.2), (asker_2536, (([] : List (Str × Int)), (listed_here_2519, s2420.1))))))) else some (allowed_2126, (asker_2153, (([] : List (Str × Int)), (listed_here_2169, x2380.2))))))))) >>= fun s2362 => (m_TableAsker___init__ order_2026 ([] : (List (Str × Int))) none >>= fun other_2563 => (catM x2069.1 ([("stranger10" : Str)]) >>= fun queue_2580 => (some ([]) >>= fun own_2596 => (some ([]) >>= fun plain_2613 => (some (1 : Int) >>= fun x2630 => (some (9 : Int) >>= fun x2635 => (m__law_draw s2362.2.2.2.2 x2635 >>= fun x2640 => (some (x2630 + x2640.1) >>= fun x2657 => (rngM 0 x2657 >>= fun xs2675 => forL (m_law_b2 queue_2580 x2105 s2362 x2007 other_2563) xs2675 (s2362.2.2.1, (handed_2139, (s2362.2.2.2.1, (([] : List (Str × Int)), (own_2596, (plain_2613, x2640.2)))))) >>= Sum.elim (fun s2680 => ((m_Order___eq__ s2362.2.1.1 order_2026 >>= fun t3864 => some ((t3864 == true))) >>= fun a3865 => some a3865)) (fun r => some r))))))))))))))))))))))))))))
theorem sc_law : FnScope ["_law_script", "_law_pot_here", "_law_masks_here", "_law_size", "_law_order", "_law_names_here", "_law_table", "_law_allowed", "_law_handed", "_law_asker", "_law_listed_here", "_law_other", "_law_queue", "_law_own", "_law_plain", "_law_k", "_law_name", "_law_due", "_law_told"] ["_law_script"] (defScope s_law) := ⟨rfl, rfl, rfl, by decide +kernel, rfl, by decide +kernel, by decide +kernel⟩
theorem ok_law (T : Tx K mg) : ∃ fd, FunD K "law" "law" (defArgs s_law) (defBody s_law) (defScope s_law) [] [] (He.ga K "law") fd ∧ ∀ base : Heap, FnOk P w K mg base CX0 7 (He.ga K "law") fd ["_law_script"] (PF (aC (rScr K) aN) rB (fun i => m_law i.1)) := by
  obtain ⟨fd, F⟩ := T.def_ 27 rfl
  refine ⟨fd, F, fun base => ?_⟩
  obtain ⟨fd__law_pot, G__law_pot, b__law_pot, k__law_pot, g__law_pot⟩ := ok__law_pot (w := w) (base := base) T
  obtain ⟨fd__law_masks, G__law_masks, b__law_masks, k__law_masks, g__law_masks⟩ := ok__law_masks (w := w) (base := base) T
  obtain ⟨fd_Order___init__, G_Order___init__, b_Order___init__⟩ := ok_Order___init__ (w := w) (base := base) T
  obtain ⟨fd__law_pairs, G__law_pairs, b__law_pairs, k__law_pairs, g__law_pairs⟩ := ok__law_pairs (w := w) (base := base) T
  obtain ⟨fd__law_names, G__law_names, b__law_names, k__law_names, g__law_names⟩ := ok__law_names (w := w) (base := base) T
  obtain ⟨fd__law_draw, G__law_draw, b__law_draw, k__law_draw, g__law_draw⟩ := ok__law_draw (w := w) (base := base) T
  obtain ⟨fd__law_spoilt_table, G__law_spoilt_table, b__law_spoilt_table, k__law_spoilt_table, g__law_spoilt_table⟩ := ok__law_spoilt_table (w := w) (base := base) T
  obtain ⟨fd_TableAsker___init__, G_TableAsker___init__, b_TableAsker___init__⟩ := ok_TableAsker___init__ (w := w) (base := base) T
  obtain ⟨fd__law_looked, G__law_looked, b__law_looked, k__law_looked, g__law_looked⟩ := ok__law_looked (w := w) (base := base) T
  obtain ⟨fd__law_table_answer, G__law_table_answer, b__law_table_answer, k__law_table_answer, g__law_table_answer⟩ := ok__law_table_answer (w := w) (base := base) T
  obtain ⟨fd__law_listed, G__law_listed, b__law_listed, k__law_listed, g__law_listed⟩ := ok__law_listed (w := w) (base := base) T
  obtain ⟨fd__law_found, G__law_found, b__law_found, k__law_found, g__law_found⟩ := ok__law_found (w := w) (base := base) T
  obtain ⟨fd_Order___eq__, G_Order___eq__, b_Order___eq__⟩ := ok_Order___eq__ (w := w) (base := base) T
  have nd := sc_law.nd
  refine (F.ok sc_law (fun vs H Q E h => ?_) (fun cdv A outer s H vs Q E hr h => ?_))
  · obtain ⟨G, ⟨script0, ⟨⟩⟩, r, e0, ⟨vscript0, _, rfl, hscript0, rfl⟩, h, k⟩ := h
    rfl
  · obtain ⟨G, ⟨script0, ⟨⟩⟩, r, e0, ⟨vscript0, _, rfl, hscript0, rfl⟩, h, k⟩ := h
    have w0 := Wo.start e0
    have h : m_law script0 = some r := h
    unfold m_law at h
    refine ⟨_, PSs.nox (pss_cons (ps_set (i := 1) nd rfl (Or.inr rfl) (pe_call G__law_pot (hr.mono (by decide)) rfl g__law_pot k__law_pot b__law_pot .nil pass0 (pa_cons (pv 0) pa_nil))) (pss_cons (ps_set (i := 2) nd rfl (Or.inl rfl) (pe_call G__law_masks (hr.mono (by decide)) rfl g__law_masks k__law_masks b__law_masks .nil pass0 (pa_cons (pv 1) (pa_cons pe_int pa_nil)))) (pss_cons (ps_set (i := 3) nd rfl (Or.inl rfl) (pe_callB (r := rLn K) call_len_seq (by rfl) (fr_len T) (by decide +kernel) (pa_cons (pv 2) pa_nil))) (pss_cons (ps_set (i := 4) nd rfl (Or.inl rfl) (pe_make (T.mkr 61 rfl) G_Order___init__ (hr.mono (by decide)) rfl (T.glo 19 rfl) b_Order___init__ .nil pass0 (pa_cons (pv 3) (pa_cons (pe_call G__law_pairs (hr.mono (by decide)) rfl g__law_pairs k__law_pairs b__law_pairs .nil pass0 (pa_cons (pv 2) pa_nil)) pa_nil)))) (pss_cons (ps_set (i := 5) nd rfl (Or.inl rfl) (pe_call G__law_names (hr.mono (by decide)) rfl g__law_names k__law_names b__law_names .nil pass0 (pa_cons (pv 1) (pa_cons (pe_op op_add pe_int (pe_call G__law_draw (hr.mono (by decide)) rfl g__law_draw k__law_draw b__law_draw .nil pass0 (pa_cons (pv 1) (pa_cons pe_int pa_nil)))) pa_nil)))) (pss_cons (ps_set (i := 6) nd rfl (Or.inl rfl) (pe_call G__law_spoilt_table (hr.mono (by decide)) rfl g__law_spoilt_table k__law_spoilt_table b__law_spoilt_table .nil pass0 (pa_cons (pv 1) (pa_cons (pv 5) (pa_cons (pv 3) pa_nil))))) (pss_cons (ps_set (i := 7) nd rfl (Or.inl rfl) pe_non) (pss_cons (ps_set (i := 8) nd rfl (Or.inl rfl) (pe_callTy (r := rDcD) call_dictD (by rfl) (fr_dict T) (by decide +kernel) (pa_cons (pv 6) pa_nil))) (pss_cons (ps_set (i := 9) nd rfl (Or.inl rfl) (pe_make (T.mkr 62 rfl) G_TableAsker___init__ (hr.mono (by decide)) rfl (T.glo 10 rfl) b_TableAsker___init__.2 (.cons (show L2.RelV V.non Value.none from rfl) .nil) pass0 (pa_cons (pv 4) (pa_cons (pv 8) pa_nil)))) (pss_cons (ps_set (i := 10) nd rfl (Or.inl rfl) (pe_lst pa_nil)) (Evl.pss_cut (ps_if (pt_cmpR op_ne (pe_call G__law_draw (hr.mono (by decide)) rfl g__law_draw k__law_draw b__law_draw .nil pass0 (pa_cons (pv 1) (pa_cons pe_int pa_nil))) pe_int (nomark _)) (pss_cons (ps_setLc (i := 7) (own := [("_law_name", 16)]) (by rfl) nd rfl rfl (sw_true rfl rfl rfl (by decide +kernel)) (show L2.PI _ _ _ (iList K _) from pi_list (pe_op op_cat (pv 5) (pe_lst (pa_cons pe_str pa_nil)))) (blkOk_by (by kernel_rfl)) (fun _ _ _ _ _ => pg_name (i := 16) nd rfl (by first | exact Or.inl rfl | exact Or.inr rfl)) (fun _ _ _ _ _ => (pts_one (pt_cmpR op_ne (pe_call G__law_draw (hr.mono (by decide)) rfl g__law_draw k__law_draw b__law_draw .nil pass0 (pa_cons (pv 1) (pa_cons pe_int pa_nil))) pe_int (nomark _)))) (fun _ _ _ _ _ => (pv 16))) (pss_cons (ps_set (i := 10) nd rfl (Or.inl rfl) (pe_callTy (r := rLs K) call_list_of (by rfl) (fr_list T) (by decide +kernel) (pa_cons (pv 7) pa_nil))) (pss_cons (ps_set (i := 9) nd rfl (Or.inl rfl) (pe_make (T.mkr 62 rfl) G_TableAsker___init__ (hr.mono (by decide)) rfl (T.glo 10 rfl) b_TableAsker___init__.1 .nil pass0 (pa_cons (pv 4) (pa_cons (pv 8) (pa_cons (pv 10) pa_nil))))) pss_nil))) pss_nil) (pss_cons (ps_set (i := 11) nd rfl (Or.inl rfl) (pe_make (T.mkr 62 rfl) G_TableAsker___init__ (hr.mono (by decide)) rfl (T.glo 10 rfl) b_TableAsker___init__.2 (.cons (show L2.RelV V.non Value.none from rfl) .nil) pass0 (pa_cons (pv 4) (pa_cons pe_dnewK pa_nil)))) (pss_cons (ps_set (i := 12) nd rfl (Or.inl rfl) (pe_op op_cat (pv 5) (pe_lst (pa_cons pe_str pa_nil)))) (pss_cons (ps_set (i := 13) nd rfl (Or.inl rfl) (pe_lst pa_nil)) (pss_cons (ps_set (i := 14) nd rfl (Or.inl rfl) (pe_lst pa_nil)) (pss_cons (ps_for PassesOwn.never rfl (pi_range1 (by rfl) (fr_range T) (pa_cons (pe_op op_add pe_int (pe_call G__law_draw (hr.mono (by decide)) rfl g__law_draw k__law_draw b__law_draw .nil pass0 (pa_cons (pv 1) (pa_cons pe_int pa_nil)))) pa_nil)) (pg_name (i := 15) nd rfl (Or.inl rfl)) (pss_cons (ps_set (i := 16) nd rfl (Or.inl rfl) (pe_ix (r := rIxL K) ix_list (pv 12) (pe_call G__law_draw (hr.mono (by decide)) rfl g__law_draw k__law_draw b__law_draw .nil pass0 (pa_cons (pv 1) (pa_cons (pe_callB (r := rLn K) call_len_seq (by rfl) (fr_len T) (by decide +kernel) (pa_cons (pv 12) pa_nil)) pa_nil))) (fun _ _ => rfl))) (Evl.pss_cut (ps_if (pt_cmpR op_eq (pv 15) pe_int (nomark _)) (pss_cons (ps_expr (pe_dclear (pv 8))) (pss_cons (ps_expr (pe_bm0 PySem.F.plainAttrs_list PySem.F.slot_list_clear PySem.F.type_list_clear mt_clear (pv 10))) pss_nil)) pss_nil) (pss_cons (ps_set (i := 17) nd rfl (Or.inl rfl) (pe_call G__law_looked (hr.mono (by decide)) rfl g__law_looked k__law_looked b__law_looked .nil pass0 (pa_cons (pv 6) (pa_cons (pv 7) (pa_cons (pv 16) (pa_cons (pv 2) pa_nil)))))) (pss_cons (ps_if (pt_cmpR op_eq (pe_call G__law_draw (hr.mono (by decide)) rfl g__law_draw k__law_draw b__law_draw .nil pass0 (pa_cons (pv 1) (pa_cons pe_int pa_nil))) pe_int (nomark _)) (pss_cons (ps_if (PW.pt (pw_or (pt_cmpR (r := rNeP K) (op_neP hr.units) (pe_call G__law_table_answer (hr.mono (by decide)) rfl g__law_table_answer k__law_table_answer b__law_table_answer .nil pass0 (pa_cons (pv 9) (pa_cons (pv 16) (pa_cons pe_bl pa_nil)))) (pv 17) (nomark _)) (pw_or1 (pt_not (pt_val (pe_call G__law_listed (hr.mono (by decide)) rfl g__law_listed k__law_listed b__law_listed .nil pass0 (pa_cons (show L2.PE _ _ (tFld K _ _) from pe_fld (pv 9) (by rfl)) (pa_cons (pv 13) pa_nil)))))))) (pss_cons (ps_ret pe_bl) pss_nil) pss_nil) pss_nil) pss_nil) (pss_cons (ps_set (i := 18) nd rfl (Or.inl rfl) (pe_call G__law_found (hr.mono (by decide)) rfl g__law_found k__law_found b__law_found .nil pass0 (pa_cons (pv 13) (pa_cons (pv 16) pa_nil)))) (Evl.pss_cut (ps_if (pt_cmpR op_notN (pv 18) pe_non (nomark _)) (pss_cons (ps_set (i := 17) nd rfl (Or.inl rfl) (pe_tup (pa_cons pe_str (pa_cons (pv 18) pa_nil)))) pss_nil) (Evl.pss_cut (ps_if (pt_cmpR (r := rEqP K) (op_eqP hr.units) (pe_ix (r := rIxT K) ix_tup (pv 17) pe_int (fun _ _ => rfl)) pe_str (nomark _)) (pss_cons (ps_expr (pe_bm PySem.F.plainAttrs_list PySem.F.slot_list_append PySem.F.type_list_append mt_append (pv 13) (pa_cons (pe_tup (pa_cons (pv 16) (pa_cons (pe_ix (r := rIxT K) ix_tup (pv 17) pe_int (fun _ _ => rfl)) pa_nil))) pa_nil))) pss_nil) pss_nil) pss_nil)) (pss_cons (ps_if (PW.pt (pw_or (pt_cmpR (r := rNeP K) (op_neP hr.units) (pe_call G__law_table_answer (hr.mono (by decide)) rfl g__law_table_answer k__law_table_answer b__law_table_answer .nil pass0 (pa_cons (pv 9) (pa_cons (pv 16) (pa_cons pe_bl pa_nil)))) (pv 17) (nomark _)) (pw_or1 (pt_not (pt_val (pe_call G__law_listed (hr.mono (by decide)) rfl g__law_listed k__law_listed b__law_listed .nil pass0 (pa_cons (show L2.PE _ _ (tFld K _ _) from pe_fld (pv 9) (by rfl)) (pa_cons (pv 13) pa_nil)))))))) (pss_cons (ps_ret pe_bl) pss_nil) pss_nil) (Evl.pss_cut (ps_if (pt_cmpR op_isN (pe_call G__law_found (hr.mono (by decide)) rfl g__law_found k__law_found b__law_found .nil pass0 (pa_cons (pv 14) (pa_cons (pv 16) pa_nil))) pe_non (nomark _)) (pss_cons (ps_expr (pe_bm PySem.F.plainAttrs_list PySem.F.slot_list_append PySem.F.type_list_append mt_append (pv 14) (pa_cons (pe_tup (pa_cons (pv 16) (pa_cons (pe_bm PySem.F.plainAttrs_list PySem.F.slot_list_index PySem.F.type_list_index mt_index (pv 2) (pa_cons (pe_callB (r := rMin K) (cr_min rfl) (by rfl) (fr_min T) (by decide +kernel) (pa_cons (pv 2) pa_nil)) pa_nil)) pa_nil))) pa_nil))) pss_nil) pss_nil) (pss_cons (ps_if (PW.pt (pw_or (pt_cmpR (r := rNeP K) (op_neP hr.units) (pe_call G__law_table_answer (hr.mono (by decide)) rfl g__law_table_answer k__law_table_answer b__law_table_answer .nil pass0 (pa_cons (pv 11) (pa_cons (pv 16) (pa_cons pe_bl pa_nil)))) (pe_tup (pa_cons pe_str (pa_cons (pe_bm PySem.F.plainAttrs_list PySem.F.slot_list_index PySem.F.type_list_index mt_index (pv 2) (pa_cons (pe_callB (r := rMin K) (cr_min rfl) (by rfl) (fr_min T) (by decide +kernel) (pa_cons (pv 2) pa_nil)) pa_nil)) pa_nil))) (nomark _)) (pw_or1 (pt_not (pt_val (pe_call G__law_listed (hr.mono (by decide)) rfl g__law_listed k__law_listed b__law_listed .nil pass0 (pa_cons (show L2.PE _ _ (tFld K _ _) from pe_fld (pv 11) (by rfl)) (pa_cons (pv 14) pa_nil)))))))) (pss_cons (ps_ret pe_bl) pss_nil) pss_nil) pss_nil)))))))))) (pss_cons (ps_ret (pe_cmpR (r := rIsBN false) op_isBN (pe_cmpR (r := rEqO K (He.ga K "Order") _) (op_eqO G_Order___eq__ (hr.mono (by decide)) (T.meth 63 rfl) b_Order___eq__) (pe_fld (pv 9) rfl) (pv 4) (nomark _)) pe_bl (nomark _))) pss_nil))))))))))))))))), ?_⟩
    obtain ⟨pot_here_1993, hx1994, h⟩ := bindS h
    refine x_setL w0 (el_call (ea_cons (e_var (R := (rScr K)) (x := script0) rfl hscript0) ea_nil)) (by first | (simp only [be1, bs1, ba1] at hx1994 ⊢; exact hx1994) | exact hx1994) ?_
    intro p1997 H1995 G1998 n1999 w1996 e2000
    have h2001 := Rep.mono _ e2000 hscript0
    refine x_setO ?_
    refine o_call ?_
    refine o_cons ?_
    refine o_var rfl ?_
    refine o_cons ?_
    obtain ⟨x2002, hx2003, h⟩ := bindS h
    refine c_i w1996 e_int hx2003 ?_
    intro H2004 w2005
    refine o_nil ?_
    obtain ⟨x2007, hx2008, h⟩ := bindS h
    refine c_p1l (i := 0) (j := (x2002, ())) w2005 rfl ⟨_, _, rfl, rfl, rfl⟩ hx2008 ?_
    intro p2011 H2009 G2012 n2013 w2010 e2014
    have h2015 := Rep.mono _ e2014 h2001
    have w2010 : Wo G H [] G2012 H2009 [(p2011, cL rI x2007.1), (p1997, cL rI x2007.2)] := w2010
    obtain ⟨G2016, w2017, e2018, h2019⟩ := w2010.freezeAt (i := 0) rfl n2013
    have h2020 := Rep.mono _ e2018 h2015
    have w2017 : Wo G H [] G2016 H2009 [(p1997, cL rI x2007.2)] := w2017
    obtain ⟨size_2021, hx2022, h⟩ := bindS h
    refine x_setI w2017 (e_cb rc_lenL (ea_cons (e_var (R := (rL rI)) (x := x2007.1) rfl h2019) ea_nil)) hx2022 ?_
    intro H2023 w2024
    obtain ⟨order_2026, hx2027, h⟩ := bindS h
    refine x_set w2024 (e_make (ea_cons (e_var (R := rI) (x := size_2021) rfl rfl) (ea_cons (EL.e (el_call (ea_cons (e_var (R := (rL rI)) (x := x2007.1) rfl h2019) ea_nil))) ea_nil))) (by first | (simp only [be1, bs1, ba1] at hx2027 ⊢; exact hx2027) | exact hx2027) ?_
    intro v2030 H2028 G2031 w2029 e2032 h2033
    have h2034 := Rep.mono _ e2032 h2020
    have h2035 := Rep.mono _ e2032 h2019
    refine x_setO ?_
    refine o_call ?_
    refine o_cons ?_
    refine o_var rfl ?_
    refine o_cons ?_
    refine o_op ?_
    obtain ⟨x2036, hx2037, h⟩ := bindS h
    refine c_i w2029 e_int hx2037 ?_
    intro H2038 w2039
    refine o_call ?_
    refine o_cons ?_
    refine o_var rfl ?_
    refine o_cons ?_
    obtain ⟨x2041, hx2042, h⟩ := bindS h
    refine c_i w2039 e_int hx2042 ?_
    intro H2043 w2044
    refine o_nil ?_
    obtain ⟨x2046, hx2047, h⟩ := bindS h
    refine c_p1 (i := 0) (j := (x2041, ())) w2044 rfl ⟨_, _, rfl, rfl, rfl⟩ hx2047 ?_
    intro u2048 H2049 G2050 w2051 e2052 r2053
    have h2054 := Rep.mono _ e2052 h2034
    have h2055 := Rep.mono _ e2052 h2035
    have h2056 := Rep.mono _ e2052 h2033
    cases r2053
    have w2051 : Wo G H [] G2050 H2049 [(p1997, cL rI x2046.2)] := w2051
    obtain ⟨x2057, hx2058, h⟩ := bindS h
    refine c_rr rr_add w2051 rfl rfl hx2058 ?_
    intro u2059 H2060 G2061 w2062 e2063 r2064
    have h2065 := Rep.mono _ e2063 h2054
    have h2066 := Rep.mono _ e2063 h2055
    have h2067 := Rep.mono _ e2063 h2056
    cases r2064
    refine o_nil ?_
    obtain ⟨x2069, hx2070, h⟩ := bindS h
    refine c_p1l (i := 0) (j := (x2057, ())) w2062 rfl ⟨_, _, rfl, rfl, rfl⟩ hx2070 ?_
    intro p2073 H2071 G2074 n2075 w2072 e2076
    have h2077 := Rep.mono _ e2076 h2065
    have h2078 := Rep.mono _ e2076 h2066
    have h2079 := Rep.mono _ e2076 h2067
    have w2072 : Wo G H [] G2074 H2071 [(p2073, cL rS x2069.1), (p1997, cL rI x2069.2)] := w2072
    obtain ⟨G2080, w2081, e2082, h2083⟩ := w2072.freezeAt (i := 0) rfl n2075
    have h2084 := Rep.mono _ e2082 h2077
    have h2085 := Rep.mono _ e2082 h2078
    have h2086 := Rep.mono _ e2082 h2079
    have w2081 : Wo G H [] G2080 H2071 [(p1997, cL rI x2069.2)] := w2081
    refine x_setO ?_
    refine o_call ?_
    refine o_cons ?_
    refine o_var rfl ?_
    refine o_cons ?_
    obtain ⟨x2087, hx2088, h⟩ := bindS h
    refine c_e w2081 (e_var (R := (rL rS)) (x := x2069.1) rfl h2083) hx2088 ?_
    intro v2091 H2089 G2092 w2090 e2093 h2094
    have h2095 := Rep.mono _ e2093 h2084
    have h2096 := Rep.mono _ e2093 h2085
    have h2097 := Rep.mono _ e2093 h2086
    have h2098 := Rep.mono _ e2093 h2083
    refine o_cons ?_
    obtain ⟨x2100, hx2101, h⟩ := bindS h
    refine c_i w2090 (e_var (R := rI) (x := size_2021) rfl rfl) hx2101 ?_
    intro H2102 w2103
    refine o_nil ?_
    obtain ⟨x2105, hx2106, h⟩ := bindS h
    refine c_p1c (i := 0) (j := (x2087, x2100, ())) w2103 rfl ⟨_, _, rfl, h2094, _, _, rfl, rfl, rfl⟩ hx2106 ?_
    intro p2109 H2107 G2110 n2111 w2108 e2112
    have h2113 := Rep.mono _ e2112 h2095
    have h2114 := Rep.mono _ e2112 h2096
    have h2115 := Rep.mono _ e2112 h2097
    have h2116 := Rep.mono _ e2112 h2098
    have h2117 := Rep.mono _ e2112 h2094
    have w2108 : Wo G H [] G2110 H2107 [(p2109, cM Sum.inr rI x2105.1), (p1997, cL rI x2105.2)] := w2108
    obtain ⟨G2118, w2119, e2120, h2121⟩ := w2108.freezeC fzM (i := 0) rfl n2111
    have h2122 := Rep.mono _ e2120 h2113
    have h2123 := Rep.mono _ e2120 h2114
    have h2124 := Rep.mono _ e2120 h2115
    have h2125 := Rep.mono _ e2120 h2116
    have w2119 : Wo G H [] G2118 H2107 [(p1997, cL rI x2105.2)] := w2119
    obtain ⟨allowed_2126, hx2127, h⟩ := bindS h
    refine x_set w2119 (e_none (R := (rL rS))) hx2127 ?_
    intro v2130 H2128 G2131 w2129 e2132 h2133
    have h2134 := Rep.mono _ e2132 h2122
    have h2135 := Rep.mono _ e2132 h2123
    have h2136 := Rep.mono _ e2132 h2124
    have h2137 := Rep.mono _ e2132 h2125
    have h2138 := Rep.mono _ e2132 h2121
    obtain ⟨handed_2139, hx2140, h⟩ := bindS h
    refine x_setC w2129 (ec_dictM (e_var (R := (rM Sum.inr rI)) (x := x2105.1) rfl h2138)) hx2140 ?_
    intro p2143 H2141 G2144 n2145 w2142 e2146
    have h2147 := Rep.mono _ e2146 h2134
    have h2148 := Rep.mono _ e2146 h2135
    have h2149 := Rep.mono _ e2146 h2136
    have h2150 := Rep.mono _ e2146 h2137
    have h2151 := Rep.mono _ e2146 h2138
    have h2152 := Rep.mono _ e2146 h2133
    obtain ⟨asker_2153, hx2154, h⟩ := bindS h
    refine x_makeT2 (B := rP rS rI) (S := rM Sum.inr rI) (S2 := rO (rL rS)) (al := none) w2142 (e_var (R := (r_Order K)) (x := order_2026) rfl h2149) rfl (e_var (R := rM Sum.inr rI) (x := handed_2139) rfl (w2142.rCAt fzM (i := 0) rfl)) rfl (fun _ => rfl) hx2154 ?_
    intro v2155 p2156 H2157 G2158 n2159 w2160 e2161 h2162
    have h2163 := Rep.mono _ e2161 h2147
    have h2164 := Rep.mono _ e2161 h2148
    have h2165 := Rep.mono _ e2161 h2149
    have h2166 := Rep.mono _ e2161 h2150
    have h2167 := Rep.mono _ e2161 h2151
    have h2168 := Rep.mono _ e2161 h2152
    have w2160 : Wo G H [] G2158 H2157 [(p2156, cL (rP rS rI) ([] : List (Str × Int))), (p2143, cM Sum.inr rI handed_2139), (p1997, cL rI x2105.2)] := w2160
    obtain ⟨listed_here_2169, hx2170, h⟩ := bindS h
    refine x_setL w2160 (el_disp (R := rS) eal_nil) hx2170 ?_
    intro p2173 H2171 G2174 n2175 w2172 e2176
    have h2177 := Rep.mono _ e2176 h2163
    have h2178 := Rep.mono _ e2176 h2164
    have h2179 := Rep.mono _ e2176 h2165
    have h2180 := Rep.mono _ e2176 h2166
    have h2181 := Rep.mono _ e2176 h2167
    have h2182 := Rep.mono _ e2176 h2168
    have h2183 := Rep.mono _ e2176 h2162
    obtain ⟨s2362, hx2363, h⟩ := bindS h
    refine o_cut (fun σ' H' => ∃ v2364 : V, ∃ v2366 : V, ∃ p2368 : Addr, ∃ p2370 : Addr, ∃ u2372 : Option V, ∃ G' : Hp, Wo G H [] G' H' [(p2368, cL (rP rS rI) s2362.2.2.1), (p2370, cL rS s2362.2.2.2.1), (p2143, cM Sum.inr rI handed_2139), (p1997, cL rI s2362.2.2.2.2)] ∧ Evl.Ex G2174 G' ∧ σ' = [some vscript0, some (V.ref p1997), some (V.ref p2011), some (V.int size_2021), some v2030, some (V.ref p2073), some (V.ref p2109), some v2364, some (V.ref p2143), some v2366, some (V.ref p2370), none, none, none, none, none, u2372, none, none] ∧ (rO (rL rS)).r G' v2364 s2362.1 ∧ (rS_TableAsker K).r G' v2366 (p2368, s2362.2.1) ∧ H p2368 = none ∧ H p2370 = none) ?_ ?_
    · refine o_if ?_
      refine o_T ?_
      refine o_op ?_
      refine o_call ?_
      refine o_cons ?_
      refine o_var rfl ?_
      refine o_cons ?_
      obtain ⟨x2375, hx2376, hx2363⟩ := bindS hx2363
      refine c_i w2172 e_int hx2376 ?_
      intro H2377 w2378
      refine o_nil ?_
      obtain ⟨x2380, hx2381, hx2363⟩ := bindS hx2363
      refine c_p1 (i := 3) (j := (x2375, ())) w2378 rfl ⟨_, _, rfl, rfl, rfl⟩ hx2381 ?_
      intro u2382 H2383 G2384 w2385 e2386 r2387
      have h2388 := Rep.mono _ e2386 h2177
      have h2389 := Rep.mono _ e2386 h2178
      have h2390 := Rep.mono _ e2386 h2179
      have h2391 := Rep.mono _ e2386 h2180
      have h2392 := Rep.mono _ e2386 h2181
      have h2393 := Rep.mono _ e2386 h2182
      have h2394 := Rep.mono _ e2386 h2183
      cases r2387
      have w2385 : Wo G H [] G2384 H2383 [(p2173, cL rS listed_here_2169), (p2156, cL (rP rS rI) ([] : List (Str × Int))), (p2143, cM Sum.inr rI handed_2139), (p1997, cL rI x2380.2)] := w2385
      obtain ⟨x2396, hx2397, hx2363⟩ := bindS hx2363
      refine c_i w2385 e_int hx2397 ?_
      intro H2398 w2399
      obtain ⟨x2400, hx2401, hx2363⟩ := bindS hx2363
      refine c_rr rr_neI w2399 rfl rfl hx2401 ?_
      intro u2402 H2403 G2404 w2405 e2406 r2407
      have h2408 := Rep.mono _ e2406 h2388
      have h2409 := Rep.mono _ e2406 h2389
      have h2410 := Rep.mono _ e2406 h2390
      have h2411 := Rep.mono _ e2406 h2391
      have h2412 := Rep.mono _ e2406 h2392
      have h2413 := Rep.mono _ e2406 h2393
      have h2414 := Rep.mono _ e2406 h2394
      cases r2407
      refine ⟨_, rfl, ite_b ?_ ?_⟩
      · intro hb2553
        rw [hb2553] at hx2363
        have hx2363 := bifT hx2363
        obtain ⟨xs2415, hx2416, hx2363⟩ := bindS hx2363
        obtain ⟨t2418, hx2419, hx2363⟩ := bindS hx2363
        refine x_lcE (T := rS) w2405 (EL.e (el_op rrl_cat (e_var (R := (rL rS)) (x := x2069.1) rfl h2411) (EL.e (el_disp (eal_cons e_str eal_nil))))) (by first | (simp only [be1, bs1, ba1] at hx2416 ⊢; exact hx2416) | exact hx2416) (fun _ => rfl) (fun i p G' H' => ∃ s2420 : ((List Int) × (List Str)), Wo G H [] G' H' [(p, cL rS s2420.2), (p2173, cL rS listed_here_2169), (p2156, cL (rP rS rI) ([] : List (Str × Int))), (p2143, cM Sum.inr rI handed_2139), (p1997, cL rI s2420.1)] ∧ Evl.Ex G2404 G' ∧ forS (m_law_b1) (xs2415.drop i) s2420 = some t2418) (fun _ _ _ _ ⟨_, w, _⟩ => w.ex) ?_ ?_ ?_
        · intro p' G' H' n' w' e'
          exact ⟨(x2380.2, []), w', e', hx2419⟩
        · rintro p2421 G2425 e2426 i2427 x2428 v2429 G2430 H2431 hx2432 e2433 ⟨s2420, w2434, e2435, hm2423⟩ r2436
          obtain ⟨q2424, hb2422, hm2423⟩ := forS_at hx2432 hm2423
          have h2437 := Rep.mono _ e2435 h2408
          have h2438 := Rep.mono _ e2435 h2409
          have h2439 := Rep.mono _ e2435 h2410
          have h2440 := Rep.mono _ e2435 h2411
          have h2441 := Rep.mono _ e2435 h2412
          have h2442 := Rep.mono _ e2435 h2413
          have h2443 := Rep.mono _ e2435 h2414
          cases r2436
          unfold m_law_b1 at hb2422
          refine o_T ?_
          refine o_op ?_
          refine o_call ?_
          refine o_cons ?_
          refine o_var rfl ?_
          refine o_cons ?_
          obtain ⟨x2444, hx2445, hb2422⟩ := bindS hb2422
          refine c_i w2434 e_int hx2445 ?_
          intro H2446 w2447
          refine o_nil ?_
          obtain ⟨x2449, hx2450, hb2422⟩ := bindS hb2422
          refine c_p1 (i := 4) (j := (x2444, ())) w2447 rfl ⟨_, _, rfl, rfl, rfl⟩ hx2450 ?_
          intro u2451 H2452 G2453 w2454 e2455 r2456
          have h2457 := Rep.mono _ e2455 h2437
          have h2458 := Rep.mono _ e2455 h2438
          have h2459 := Rep.mono _ e2455 h2439
          have h2460 := Rep.mono _ e2455 h2440
          have h2461 := Rep.mono _ e2455 h2441
          have h2462 := Rep.mono _ e2455 h2442
          have h2463 := Rep.mono _ e2455 h2443
          cases r2456
          have w2454 : Wo G H [] G2453 H2452 [(p2421, cL rS s2420.2), (p2173, cL rS listed_here_2169), (p2156, cL (rP rS rI) ([] : List (Str × Int))), (p2143, cM Sum.inr rI handed_2139), (p1997, cL rI x2449.2)] := w2454
          obtain ⟨x2465, hx2466, hb2422⟩ := bindS hb2422
          refine c_i w2454 e_int hx2466 ?_
          intro H2467 w2468
          obtain ⟨x2469, hx2470, hb2422⟩ := bindS hb2422
          refine c_rr rr_neI w2468 rfl rfl hx2470 ?_
          intro u2471 H2472 G2473 w2474 e2475 r2476
          have h2477 := Rep.mono _ e2475 h2457
          have h2478 := Rep.mono _ e2475 h2458
          have h2479 := Rep.mono _ e2475 h2459
          have h2480 := Rep.mono _ e2475 h2460
          have h2481 := Rep.mono _ e2475 h2461
          have h2482 := Rep.mono _ e2475 h2462
          have h2483 := Rep.mono _ e2475 h2463
          cases r2476
          refine ⟨_, rfl, ite_b ?_ ?_⟩
          · intro hb2484
            rw [hb2484] at hb2422
            have hb2422 := bifT hb2422
            obtain ⟨y2485, hx2486, hb2422⟩ := bindS hb2422
            refine c_e w2474 (e_var (R := rS) (x := x2428) rfl rfl) hx2486 ?_
            intro v2488 H2489 G2490 w2491 e2492 r2493
            obtain ⟨z2487, hx2494, hb2422⟩ := bindS hb2422
            obtain ⟨hs2495, rfl⟩ := appM_ok hx2494
            refine c_lcput w2491 hs2495 r2493 ?_
            intro a9 w9
            have hb2422 : (x2449.2, (s2420.2 ++ [y2485])) = q2424 := Option.some.inj hb2422
            subst hb2422
            exact ⟨G2490, e2433.trans ((e2455.trans e2475).trans e2492), (x2449.2, (s2420.2 ++ [y2485])), w9, (((e2435.trans e2455).trans e2475).trans e2492), hm2423⟩
          · intro hb2484
            rw [hb2484] at hb2422
            have hb2422 := bifF hb2422
            have hb2422 : (x2449.2, s2420.2) = q2424 := Option.some.inj hb2422
            subst hb2422
            exact ⟨G2473, e2433.trans (e2455.trans e2475), (x2449.2, s2420.2), w2474, ((e2435.trans e2455).trans e2475), hm2423⟩
        · rintro p2421 G2496 H2497 n2500 ⟨s2420, w2498, e2499, hm2423⟩
          have hm2423 := forS_end hm2423
          subst hm2423
          have h2501 := Rep.mono _ e2499 h2408
          have h2502 := Rep.mono _ e2499 h2409
          have h2503 := Rep.mono _ e2499 h2410
          have h2504 := Rep.mono _ e2499 h2411
          have h2505 := Rep.mono _ e2499 h2412
          have h2506 := Rep.mono _ e2499 h2413
          have h2507 := Rep.mono _ e2499 h2414
          obtain ⟨G2508, w2509, e2510, h2511⟩ := w2498.freezeAt (i := 0) rfl n2500
          have h2512 := Rep.mono _ e2510 h2501
          have h2513 := Rep.mono _ e2510 h2502
          have h2514 := Rep.mono _ e2510 h2503
          have h2515 := Rep.mono _ e2510 h2504
          have h2516 := Rep.mono _ e2510 h2505
          have h2517 := Rep.mono _ e2510 h2507
          have w2509 : Wo G H [] G2508 H2497 [(p2173, cL rS listed_here_2169), (p2156, cL (rP rS rI) ([] : List (Str × Int))), (p2143, cM Sum.inr rI handed_2139), (p1997, cL rI s2420.1)] := w2509
          obtain ⟨listed_here_2519, hx2520, hx2363⟩ := bindS hx2363
          have w2521 := w2509.dropAt 0
          have w2521 : Wo G H [] G2508 H2497 [(p2156, cL (rP rS rI) ([] : List (Str × Int))), (p2143, cM Sum.inr rI handed_2139), (p1997, cL rI s2420.1)] := w2521
          refine x_setL w2521 (el_cb rc_listL (ea_cons (e_get (e_var (R := (rO (rL rS))) (x := (some s2420.2)) rfl (show ((rO (rL rS))).r _ _ (some s2420.2) from h2511))) ea_nil)) (by first | (simp only [be1, bs1, ba1] at hx2520 ⊢; exact hx2520) | exact hx2520) ?_
          intro p2524 H2522 G2525 n2526 w2523 e2527
          have h2528 := Rep.mono _ e2527 h2512
          have h2529 := Rep.mono _ e2527 h2513
          have h2530 := Rep.mono _ e2527 h2514
          have h2531 := Rep.mono _ e2527 h2515
          have h2532 := Rep.mono _ e2527 h2516
          have h2533 := Rep.mono _ e2527 (show ((rO (rL rS))).r _ _ (some s2420.2) from h2511)
          have h2534 := Rep.mono _ e2527 h2517
          have w2535 := w2523.dropAt 1
          have w2535 : Wo G H [] G2525 H2522 [(p2524, cL rS listed_here_2519), (p2143, cM Sum.inr rI handed_2139), (p1997, cL rI s2420.1)] := w2535
          obtain ⟨asker_2536, hx2537, hx2363⟩ := bindS hx2363
          refine x_makeT3 (B := rP rS rI) (S := rM Sum.inr rI) (S2 := rO (rL rS)) w2535 (e_var (R := (r_Order K)) (x := order_2026) rfl h2530) rfl (e_var (R := rM Sum.inr rI) (x := handed_2139) rfl (w2535.rCAt fzM (i := 1) rfl)) rfl (e_var (R := rO (rL rS)) (x := (some listed_here_2519)) rfl (w2535.rlAt (i := 0) rfl)) rfl hx2537 ?_
          intro v2538 p2539 H2540 G2541 n2542 w2543 e2544 h2545
          have h2546 := Rep.mono _ e2544 h2528
          have h2547 := Rep.mono _ e2544 h2529
          have h2548 := Rep.mono _ e2544 h2530
          have h2549 := Rep.mono _ e2544 h2531
          have h2550 := Rep.mono _ e2544 h2532
          have h2551 := Rep.mono _ e2544 h2533
          have h2552 := Rep.mono _ e2544 h2534
          have w2543 : Wo G H [] G2541 H2540 [(p2539, cL (rP rS rI) ([] : List (Str × Int))), (p2524, cL rS listed_here_2519), (p2143, cM Sum.inr rI handed_2139), (p1997, cL rI s2420.1)] := w2543
          refine x_next ?_
          have hx2363 : ((some s2420.2), (asker_2536, (([] : List (Str × Int)), (listed_here_2519, s2420.1)))) = s2362 := Option.some.inj hx2363
          subst hx2363
          exact ⟨(.ref p2421), v2538, p2539, p2524, (none), G2541, w2543, (((((e2386.trans e2406).trans e2499).trans e2510).trans e2527).trans e2544), rfl, h2551, h2545, n2542, n2526⟩
      · intro hb2555
        rw [hb2555] at hx2363
        have hx2363 := bifF hx2363
        refine x_next ?_
        have w2554 := w2405.perm [1, 0, 2, 3] (by decide) (show ∀ i ∈ [1, 0, 2, 3], i < 4 by decide)
        have w2554 : Wo G H [] G2404 H2403 [(p2156, cL (rP rS rI) ([] : List (Str × Int))), (p2173, cL rS listed_here_2169), (p2143, cM Sum.inr rI handed_2139), (p1997, cL rI x2380.2)] := w2554
        have hx2363 : (allowed_2126, (asker_2153, (([] : List (Str × Int)), (listed_here_2169, x2380.2)))) = s2362 := Option.some.inj hx2363
        subst hx2363
        exact ⟨v2130, v2155, p2156, p2173, (none), G2404, w2554, (e2386.trans e2406), rfl, h2413, h2414, n2159, n2175⟩
    · rintro σ' H2557 ⟨v2364, v2366, p2368, p2370, u2372, G2556, w2374, e2373, rfl, h2365, h2367, n2369, n2371⟩
      have h2558 := Rep.mono _ e2373 h2177
      have h2559 := Rep.mono _ e2373 h2178
      have h2560 := Rep.mono _ e2373 h2179
      have h2561 := Rep.mono _ e2373 h2180
      have h2562 := Rep.mono _ e2373 h2181
      obtain ⟨other_2563, hx2564, h⟩ := bindS h
      refine x_makeT2 (B := rP rS rI) (S := rM Sum.inr rI) (S2 := rO (rL rS)) (al := none) w2374 (e_var (R := (r_Order K)) (x := order_2026) rfl h2560) rfl (EC.e fzM (ec_dnew (kf := Sum.inr) (R := rI))) rfl (fun _ => rfl) hx2564 ?_
      intro v2565 p2566 H2567 G2568 n2569 w2570 e2571 h2572
      have h2573 := Rep.mono _ e2571 h2558
      have h2574 := Rep.mono _ e2571 h2559
      have h2575 := Rep.mono _ e2571 h2560
      have h2576 := Rep.mono _ e2571 h2561
      have h2577 := Rep.mono _ e2571 h2562
      have h2578 := Rep.mono _ e2571 h2365
      have h2579 := Rep.mono _ e2571 h2367
      have w2570 : Wo G H [] G2568 H2567 [(p2566, cL (rP rS rI) ([] : List (Str × Int))), (p2368, cL (rP rS rI) s2362.2.2.1), (p2370, cL rS s2362.2.2.2.1), (p2143, cM Sum.inr rI handed_2139), (p1997, cL rI s2362.2.2.2.2)] := w2570
      obtain ⟨queue_2580, hx2581, h⟩ := bindS h
      refine x_set w2570 (EL.e (el_op rrl_cat (e_var (R := (rL rS)) (x := x2069.1) rfl h2576) (EL.e (el_disp (eal_cons e_str eal_nil))))) (by first | (simp only [be1, bs1, ba1] at hx2581 ⊢; exact hx2581) | exact hx2581) ?_
      intro v2584 H2582 G2585 w2583 e2586 h2587
      have h2588 := Rep.mono _ e2586 h2573
      have h2589 := Rep.mono _ e2586 h2574
      have h2590 := Rep.mono _ e2586 h2575
      have h2591 := Rep.mono _ e2586 h2576
      have h2592 := Rep.mono _ e2586 h2577
      have h2593 := Rep.mono _ e2586 h2578
      have h2594 := Rep.mono _ e2586 h2579
      have h2595 := Rep.mono _ e2586 h2572
      obtain ⟨own_2596, hx2597, h⟩ := bindS h
      refine x_setL w2583 (el_disp (R := (rP rS rI)) eal_nil) hx2597 ?_
      intro p2600 H2598 G2601 n2602 w2599 e2603
      have h2604 := Rep.mono _ e2603 h2588
      have h2605 := Rep.mono _ e2603 h2589
      have h2606 := Rep.mono _ e2603 h2590
      have h2607 := Rep.mono _ e2603 h2591
      have h2608 := Rep.mono _ e2603 h2592
      have h2609 := Rep.mono _ e2603 h2593
      have h2610 := Rep.mono _ e2603 h2594
      have h2611 := Rep.mono _ e2603 h2595
      have h2612 := Rep.mono _ e2603 h2587
      obtain ⟨plain_2613, hx2614, h⟩ := bindS h
      refine x_setL w2599 (el_disp (R := (rP rS rI)) eal_nil) hx2614 ?_
      intro p2617 H2615 G2618 n2619 w2616 e2620
      have h2621 := Rep.mono _ e2620 h2604
      have h2622 := Rep.mono _ e2620 h2605
      have h2623 := Rep.mono _ e2620 h2606
      have h2624 := Rep.mono _ e2620 h2607
      have h2625 := Rep.mono _ e2620 h2608
      have h2626 := Rep.mono _ e2620 h2609
      have h2627 := Rep.mono _ e2620 h2610
      have h2628 := Rep.mono _ e2620 h2611
      have h2629 := Rep.mono _ e2620 h2612
      refine o_forR ?_
      refine o_cons ?_
      refine o_op ?_
      obtain ⟨x2630, hx2631, h⟩ := bindS h
      refine c_i w2616 e_int hx2631 ?_
      intro H2632 w2633
      refine o_call ?_
      refine o_cons ?_
      refine o_var rfl ?_
      refine o_cons ?_
      obtain ⟨x2635, hx2636, h⟩ := bindS h
      refine c_i w2633 e_int hx2636 ?_
      intro H2637 w2638
      refine o_nil ?_
      obtain ⟨x2640, hx2641, h⟩ := bindS h
      refine c_p1 (i := 6) (j := (x2635, ())) w2638 rfl ⟨_, _, rfl, rfl, rfl⟩ hx2641 ?_
      intro u2642 H2643 G2644 w2645 e2646 r2647
      have h2648 := Rep.mono _ e2646 h2621
      have h2649 := Rep.mono _ e2646 h2622
      have h2650 := Rep.mono _ e2646 h2623
      have h2651 := Rep.mono _ e2646 h2624
      have h2652 := Rep.mono _ e2646 h2625
      have h2653 := Rep.mono _ e2646 h2626
      have h2654 := Rep.mono _ e2646 h2627
      have h2655 := Rep.mono _ e2646 h2628
      have h2656 := Rep.mono _ e2646 h2629
      cases r2647
      have w2645 : Wo G H [] G2644 H2643 [(p2617, cL (rP rS rI) plain_2613), (p2600, cL (rP rS rI) own_2596), (p2566, cL (rP rS rI) ([] : List (Str × Int))), (p2368, cL (rP rS rI) s2362.2.2.1), (p2370, cL rS s2362.2.2.2.1), (p2143, cM Sum.inr rI handed_2139), (p1997, cL rI x2640.2)] := w2645
      obtain ⟨x2657, hx2658, h⟩ := bindS h
      refine c_rr rr_add w2645 rfl rfl hx2658 ?_
      intro u2659 H2660 G2661 w2662 e2663 r2664
      have h2665 := Rep.mono _ e2663 h2648
      have h2666 := Rep.mono _ e2663 h2649
      have h2667 := Rep.mono _ e2663 h2650
      have h2668 := Rep.mono _ e2663 h2651
      have h2669 := Rep.mono _ e2663 h2652
      have h2670 := Rep.mono _ e2663 h2653
      have h2671 := Rep.mono _ e2663 h2654
      have h2672 := Rep.mono _ e2663 h2655
      have h2673 := Rep.mono _ e2663 h2656
      cases r2664
      refine o_nil ?_
      obtain ⟨xs2675, hx2676, h⟩ := bindS h
      obtain ⟨t2678, hx2679, h⟩ := bindS h
      refine v_forR w2662 hx2676 (fun i G' H' σ' => ∃ s2680 : ((List (Str × Int)) × ((List (Str × Int)) × ((List Str) × ((List (Str × Int)) × ((List (Str × Int)) × ((List (Str × Int)) × (List Int))))))), ∃ u2681 : Option V, ∃ u2682 : Option V, ∃ u2683 : Option V, ∃ u2684 : Option V, Wo G H [] G' H' [(p2617, cL (rP rS rI) s2680.2.2.2.2.2.1), (p2600, cL (rP rS rI) s2680.2.2.2.2.1), (p2566, cL (rP rS rI) s2680.2.2.2.1), (p2368, cL (rP rS rI) s2680.1), (p2370, cL rS s2680.2.2.1), (p2143, cM Sum.inr rI s2680.2.1), (p1997, cL rI s2680.2.2.2.2.2.2)] ∧ Evl.Ex G2661 G' ∧ σ' = [some vscript0, some (V.ref p1997), some (V.ref p2011), some (V.int size_2021), some v2030, some (V.ref p2073), some (V.ref p2109), some v2364, some (V.ref p2143), some v2366, some (V.ref p2370), some v2565, some v2584, some (V.ref p2600), some (V.ref p2617), u2682, u2683, u2681, u2684] ∧ forL (m_law_b2 queue_2580 x2105 s2362 x2007 other_2563) (xs2675.drop i) s2680 = some t2678) ?_ ?_ ?_
      · exact ⟨(s2362.2.2.1, (handed_2139, (s2362.2.2.2.1, (([] : List (Str × Int)), (own_2596, (plain_2613, x2640.2)))))), (none), (none), (u2372), (none), w2662, (Evl.Ex.refl _), rfl, hx2679⟩
      · rintro i2692 x2693 σ' G2688 H2691 hx2694 ⟨s2680, u2681, u2682, u2683, u2684, w2689, e2690, rfl, hm2686⟩
        obtain ⟨q2687, hb2685, hm2686⟩ := forL_at hx2694 hm2686
        have h2695 := Rep.mono _ e2690 h2665
        have h2696 := Rep.mono _ e2690 h2666
        have h2697 := Rep.mono _ e2690 h2667
        have h2698 := Rep.mono _ e2690 h2668
        have h2699 := Rep.mono _ e2690 h2669
        have h2700 := Rep.mono _ e2690 h2670
        have h2701 := Rep.mono _ e2690 h2671
        have h2702 := Rep.mono _ e2690 h2672
        have h2703 := Rep.mono _ e2690 h2673
        refine g_name ?_
        unfold m_law_b2 at hb2685
        refine x_setO ?_
        refine o_op ?_
        obtain ⟨x2704, hx2705, hb2685⟩ := bindS hb2685
        refine c_e w2689 (e_var (R := (rL rS)) (x := queue_2580) rfl h2703) hx2705 ?_
        intro v2708 H2706 G2709 w2707 e2710 h2711
        have h2712 := Rep.mono _ e2710 h2695
        have h2713 := Rep.mono _ e2710 h2696
        have h2714 := Rep.mono _ e2710 h2697
        have h2715 := Rep.mono _ e2710 h2698
        have h2716 := Rep.mono _ e2710 h2699
        have h2717 := Rep.mono _ e2710 h2700
        have h2718 := Rep.mono _ e2710 h2701
        have h2719 := Rep.mono _ e2710 h2702
        have h2720 := Rep.mono _ e2710 h2703
        refine o_call ?_
        refine o_cons ?_
        refine o_var rfl ?_
        refine o_cons ?_
        obtain ⟨x2722, hx2723, hb2685⟩ := bindS hb2685
        refine c_i w2707 (e_cb rc_lenL (ea_cons (e_var (R := (rL rS)) (x := queue_2580) rfl h2720) ea_nil)) hx2723 ?_
        intro H2724 w2725
        refine o_nil ?_
        obtain ⟨x2727, hx2728, hb2685⟩ := bindS hb2685
        refine c_p1 (i := 6) (j := (x2722, ())) w2725 rfl ⟨_, _, rfl, rfl, rfl⟩ hx2728 ?_
        intro u2729 H2730 G2731 w2732 e2733 r2734
        have h2735 := Rep.mono _ e2733 h2712
        have h2736 := Rep.mono _ e2733 h2713
        have h2737 := Rep.mono _ e2733 h2714
        have h2738 := Rep.mono _ e2733 h2715
        have h2739 := Rep.mono _ e2733 h2716
        have h2740 := Rep.mono _ e2733 h2717
        have h2741 := Rep.mono _ e2733 h2718
        have h2742 := Rep.mono _ e2733 h2719
        have h2743 := Rep.mono _ e2733 h2720
        have h2744 := Rep.mono _ e2733 h2711
        cases r2734
        have w2732 : Wo G H [] G2731 H2730 [(p2617, cL (rP rS rI) s2680.2.2.2.2.2.1), (p2600, cL (rP rS rI) s2680.2.2.2.2.1), (p2566, cL (rP rS rI) s2680.2.2.2.1), (p2368, cL (rP rS rI) s2680.1), (p2370, cL rS s2680.2.2.1), (p2143, cM Sum.inr rI s2680.2.1), (p1997, cL rI x2727.2)] := w2732
        obtain ⟨x2745, hx2746, hb2685⟩ := bindS hb2685
        refine c_rr rr_ixL w2732 h2744 rfl hx2746 ?_
        intro u2747 H2748 G2749 w2750 e2751 r2752
        have h2753 := Rep.mono _ e2751 h2735
        have h2754 := Rep.mono _ e2751 h2736
        have h2755 := Rep.mono _ e2751 h2737
        have h2756 := Rep.mono _ e2751 h2738
        have h2757 := Rep.mono _ e2751 h2739
        have h2758 := Rep.mono _ e2751 h2740
        have h2759 := Rep.mono _ e2751 h2741
        have h2760 := Rep.mono _ e2751 h2742
        have h2761 := Rep.mono _ e2751 h2743
        have h2762 := Rep.mono _ e2751 h2744
        cases r2752
        obtain ⟨s2772, hx2773, hb2685⟩ := bindS hb2685
        refine o_cut (fun σ' H' => ∃ G' : Hp, Wo G H [] G' H' [(p2617, cL (rP rS rI) s2680.2.2.2.2.2.1), (p2600, cL (rP rS rI) s2680.2.2.2.2.1), (p2566, cL (rP rS rI) s2680.2.2.2.1), (p2368, cL (rP rS rI) s2680.1), (p2370, cL rS s2772.2), (p2143, cM Sum.inr rI s2772.1), (p1997, cL rI x2727.2)] ∧ Evl.Ex G2749 G' ∧ σ' = [some vscript0, some (V.ref p1997), some (V.ref p2011), some (V.int size_2021), some v2030, some (V.ref p2073), some (V.ref p2109), some v2364, some (V.ref p2143), some v2366, some (V.ref p2370), some v2565, some v2584, some (V.ref p2600), some (V.ref p2617), some (V.int x2693), some (V.str x2745), u2681, u2684]) ?_ ?_
        · obtain ⟨b2763, hx2777, hx2773⟩ := bindS hx2773
          refine x_if w2750 (et_T (e_op rr_eqI (e_var (R := rI) (x := x2693) rfl rfl) e_int)) hx2777 ?_ ?_
          · intro hbb2763 H2778 w2779
            subst hbb2763
            have hx2773 := bifT hx2773
            refine x_drop ?_
            obtain ⟨handed_2780, hx2781, hx2773⟩ := bindS hx2773
            cases hx2781
            refine c_dclear (j := 5) w2779 rfl rfl ?_
            intro H2782 w2783
            have w2783 : Wo G H [] G2749 H2782 [(p2617, cL (rP rS rI) s2680.2.2.2.2.2.1), (p2600, cL (rP rS rI) s2680.2.2.2.2.1), (p2566, cL (rP rS rI) s2680.2.2.2.1), (p2368, cL (rP rS rI) s2680.1), (p2370, cL rS s2680.2.2.1), (p2143, cM Sum.inr rI ([] : (List (Str × Int)))), (p1997, cL rI x2727.2)] := w2783
            refine x_drop ?_
            obtain ⟨listed_here_2784, hx2785, hx2773⟩ := bindS hx2773
            cases hx2785
            refine o_bm0 (j := 4) w2783 rfl rfl (c_clear (j := 4) w2783 rfl ?_)
            intro H2786 w2787
            have w2787 : Wo G H [] G2749 H2786 [(p2617, cL (rP rS rI) s2680.2.2.2.2.2.1), (p2600, cL (rP rS rI) s2680.2.2.2.2.1), (p2566, cL (rP rS rI) s2680.2.2.2.1), (p2368, cL (rP rS rI) s2680.1), (p2370, cL rS ([] : (List Str))), (p2143, cM Sum.inr rI ([] : (List (Str × Int)))), (p1997, cL rI x2727.2)] := w2787
            refine x_next ?_
            have hx2773 : (([] : (List (Str × Int))), ([] : (List Str))) = s2772 := Option.some.inj hx2773
            subst hx2773
            exact ⟨G2749, w2787, (Evl.Ex.refl _), rfl⟩
          · intro hbb2763 H2788 w2789
            subst hbb2763
            have hx2773 := bifF hx2773
            refine x_next ?_
            have hx2773 : (s2680.2.1, s2680.2.2.1) = s2772 := Option.some.inj hx2773
            subst hx2773
            exact ⟨G2749, w2789, (Evl.Ex.refl _), rfl⟩
        · rintro σ' H2800 ⟨G2790, w2775, e2774, rfl⟩
          have h2791 := Rep.mono _ e2774 h2753
          have h2792 := Rep.mono _ e2774 h2754
          have h2793 := Rep.mono _ e2774 h2755
          have h2794 := Rep.mono _ e2774 h2756
          have h2795 := Rep.mono _ e2774 h2757
          have h2796 := Rep.mono _ e2774 h2758
          have h2797 := Rep.mono _ e2774 h2759
          have h2798 := Rep.mono _ e2774 h2760
          have h2799 := Rep.mono _ e2774 h2761
          obtain ⟨due_2801, hx2802, hb2685⟩ := bindS hb2685
          refine x_set w2775 (e_call (ea_cons (e_var (R := (rM Sum.inr rI)) (x := x2105.1) rfl h2795) (ea_cons (e_var (R := (rO (rL rS))) (x := s2362.1) rfl h2796) (ea_cons (e_var (R := rS) (x := x2745) rfl rfl) (ea_cons (e_var (R := (rL rI)) (x := x2007.1) rfl h2792) ea_nil))))) (by first | (simp only [be1, bs1, ba1] at hx2802 ⊢; exact hx2802) | exact hx2802) ?_
          intro v2805 H2803 G2806 w2804 e2807 h2808
          have h2809 := Rep.mono _ e2807 h2791
          have h2810 := Rep.mono _ e2807 h2792
          have h2811 := Rep.mono _ e2807 h2793
          have h2812 := Rep.mono _ e2807 h2794
          have h2813 := Rep.mono _ e2807 h2795
          have h2814 := Rep.mono _ e2807 h2796
          have h2815 := Rep.mono _ e2807 h2797
          have h2816 := Rep.mono _ e2807 h2798
          have h2817 := Rep.mono _ e2807 h2799
          refine o_if ?_
          refine o_T ?_
          refine o_op ?_
          refine o_call ?_
          refine o_cons ?_
          refine o_var rfl ?_
          refine o_cons ?_
          obtain ⟨x2818, hx2819, hb2685⟩ := bindS hb2685
          refine c_i w2804 e_int hx2819 ?_
          intro H2820 w2821
          refine o_nil ?_
          obtain ⟨x2823, hx2824, hb2685⟩ := bindS hb2685
          refine c_p1 (i := 6) (j := (x2818, ())) w2821 rfl ⟨_, _, rfl, rfl, rfl⟩ hx2824 ?_
          intro u2825 H2826 G2827 w2828 e2829 r2830
          have h2831 := Rep.mono _ e2829 h2809
          have h2832 := Rep.mono _ e2829 h2810
          have h2833 := Rep.mono _ e2829 h2811
          have h2834 := Rep.mono _ e2829 h2812
          have h2835 := Rep.mono _ e2829 h2813
          have h2836 := Rep.mono _ e2829 h2814
          have h2837 := Rep.mono _ e2829 h2815
          have h2838 := Rep.mono _ e2829 h2816
          have h2839 := Rep.mono _ e2829 h2817
          have h2840 := Rep.mono _ e2829 h2808
          cases r2830
          have w2828 : Wo G H [] G2827 H2826 [(p2617, cL (rP rS rI) s2680.2.2.2.2.2.1), (p2600, cL (rP rS rI) s2680.2.2.2.2.1), (p2566, cL (rP rS rI) s2680.2.2.2.1), (p2368, cL (rP rS rI) s2680.1), (p2370, cL rS s2772.2), (p2143, cM Sum.inr rI s2772.1), (p1997, cL rI x2823.2)] := w2828
          obtain ⟨x2842, hx2843, hb2685⟩ := bindS hb2685
          refine c_i w2828 e_int hx2843 ?_
          intro H2844 w2845
          obtain ⟨x2846, hx2847, hb2685⟩ := bindS hb2685
          refine c_rr rr_eqI w2845 rfl rfl hx2847 ?_
          intro u2848 H2849 G2850 w2851 e2852 r2853
          have h2854 := Rep.mono _ e2852 h2831
          have h2855 := Rep.mono _ e2852 h2832
          have h2856 := Rep.mono _ e2852 h2833
          have h2857 := Rep.mono _ e2852 h2834
          have h2858 := Rep.mono _ e2852 h2835
          have h2859 := Rep.mono _ e2852 h2836
          have h2860 := Rep.mono _ e2852 h2837
          have h2861 := Rep.mono _ e2852 h2838
          have h2862 := Rep.mono _ e2852 h2839
          have h2863 := Rep.mono _ e2852 h2840
          cases r2853
          refine ⟨_, rfl, ite_b ?_ ?_⟩
          · intro hb3395
            rw [hb3395] at hb2685
            have hb2685 := bifT hb2685
            refine o_if ?_
            refine o_or ?_
            refine o_T ?_
            refine o_op ?_
            refine o_call ?_
            refine o_cons ?_
            refine o_var rfl ?_
            refine o_cons ?_
            obtain ⟨x2864, hx2865, hb2685⟩ := bindS hb2685
            refine c_s w2851 (e_var (R := rS) (x := x2745) rfl rfl) hx2865 ?_
            intro H2866 w2867
            refine o_cons ?_
            obtain ⟨x2869, hx2870, hb2685⟩ := bindS hb2685
            refine c_b w2867 e_bl hx2870 ?_
            intro H2871 w2872
            refine o_nil ?_
            obtain ⟨x2874, hx2875, hb2685⟩ := bindS hb2685
            refine c_pq (j := 3) (i := ((p2368, s2362.2.1), x2864, x2869, ())) w2872 rfl ⟨_, _, rfl, h2860, _, _, rfl, rfl, _, _, rfl, rfl, rfl⟩ hx2875 ?_
            intro u2876 H2877 G2878 w2879 e2880 r2881
            have h2882 := Rep.mono _ e2880 h2854
            have h2883 := Rep.mono _ e2880 h2855
            have h2884 := Rep.mono _ e2880 h2856
            have h2885 := Rep.mono _ e2880 h2857
            have h2886 := Rep.mono _ e2880 h2858
            have h2887 := Rep.mono _ e2880 h2859
            have h2888 := Rep.mono _ e2880 h2860
            have h2889 := Rep.mono _ e2880 h2861
            have h2890 := Rep.mono _ e2880 h2862
            have h2891 := Rep.mono _ e2880 h2863
            have w2879 : Wo G H [] G2878 H2877 [(p2617, cL (rP rS rI) s2680.2.2.2.2.2.1), (p2600, cL (rP rS rI) s2680.2.2.2.2.1), (p2566, cL (rP rS rI) s2680.2.2.2.1), (p2368, cL (rP rS rI) x2874.2), (p2370, cL rS s2772.2), (p2143, cM Sum.inr rI s2772.1), (p1997, cL rI x2823.2)] := w2879
            obtain ⟨x2893, hx2894, hb2685⟩ := bindS hb2685
            refine c_e w2879 (e_var (R := (rD K)) (x := due_2801) rfl h2891) hx2894 ?_
            intro v2897 H2895 G2898 w2896 e2899 h2900
            have h2901 := Rep.mono _ e2899 h2882
            have h2902 := Rep.mono _ e2899 h2883
            have h2903 := Rep.mono _ e2899 h2884
            have h2904 := Rep.mono _ e2899 h2885
            have h2905 := Rep.mono _ e2899 h2886
            have h2906 := Rep.mono _ e2899 h2887
            have h2907 := Rep.mono _ e2899 h2888
            have h2908 := Rep.mono _ e2899 h2889
            have h2909 := Rep.mono _ e2899 h2890
            have h2910 := Rep.mono _ e2899 h2891
            have h2911 := Rep.mono _ e2899 r2881
            obtain ⟨x2912, hx2913, hb2685⟩ := bindS hb2685
            refine c_rr rr_neDD w2896 h2911 h2900 hx2913 ?_
            intro u2914 H2915 G2916 w2917 e2918 r2919
            have h2920 := Rep.mono _ e2918 h2901
            have h2921 := Rep.mono _ e2918 h2902
            have h2922 := Rep.mono _ e2918 h2903
            have h2923 := Rep.mono _ e2918 h2904
            have h2924 := Rep.mono _ e2918 h2905
            have h2925 := Rep.mono _ e2918 h2906
            have h2926 := Rep.mono _ e2918 h2907
            have h2927 := Rep.mono _ e2918 h2908
            have h2928 := Rep.mono _ e2918 h2909
            have h2929 := Rep.mono _ e2918 h2910
            have h2930 := Rep.mono _ e2918 h2911
            cases r2919
            refine ⟨_, rfl, ite_b ?_ ?_⟩
            · intro hb3394
              rw [hb3394] at hb2685
              have hb2685 := bifT hb2685
              refine o_tt ?_
              obtain ⟨a2931, hx2932, hb2685⟩ := bindS hb2685
              have hb2685 : some (Stp.rt a2931) = some q2687 := hb2685
              cases hb2685
              have hm2686 : some (Sum.inr a2931) = some t2678 := hm2686
              cases hm2686
              have h : a2931 = r := Option.some.inj h
              subst h
              exact x_ret w2917 e_bl hx2932 (fun v9 H9 G9 w9 e9 r9 => k v9 H9 G9 w9.upE r9)
            · intro hb3394
              rw [hb3394] at hb2685
              have hb2685 := bifF hb2685
              obtain ⟨b2934, hx2935, hb2685⟩ := bindS hb2685
              refine c_t w2917 (et_not (et_B (e_call (ea_cons (e_cellA (j := 3) w2917 rfl (e_fld (S := rA) 1 (fun (o : Addr × m_TableAsker) => o.1) (e_var (R := rS_TableAsker K) (x := (p2368, s2362.2.1)) rfl h2926) (T.cls 53 rfl) (T.noat 55 rfl) (by decide +kernel) (fun _ => rfl))) (ea_cons (e_var (R := (rL (rP rS rI))) (x := s2680.2.2.2.2.1) rfl (w2917.rlAt (i := 1) rfl)) ea_nil))))) (by first | (simp only [be1, bs1, ba1] at hx2935 ⊢; exact hx2935) | exact hx2935) ?_
              intro H2936 w2937
              refine ite_b ?_ ?_
              · intro hb3393
                rw [hb3393] at hb2685
                have hb2685 := bifT hb2685
                obtain ⟨a2938, hx2939, hb2685⟩ := bindS hb2685
                have hb2685 : some (Stp.rt a2938) = some q2687 := hb2685
                cases hb2685
                have hm2686 : some (Sum.inr a2938) = some t2678 := hm2686
                cases hm2686
                have h : a2938 = r := Option.some.inj h
                subst h
                exact x_ret w2937 e_bl hx2939 (fun v9 H9 G9 w9 e9 r9 => k v9 H9 G9 w9.upE r9)
              · intro hb3393
                rw [hb3393] at hb2685
                have hb2685 := bifF hb2685
                refine x_next ?_
                refine x_next ?_
                obtain ⟨told_2940, hx2941, hb2685⟩ := bindS hb2685
                refine x_set w2937 (Sim.E.s (scO scI) (e_call (ea_cons (e_var (R := (rL (rP rS rI))) (x := s2680.2.2.2.2.1) rfl (w2937.rlAt (i := 1) rfl)) (ea_cons (e_var (R := rS) (x := x2745) rfl rfl) ea_nil)))) (by first | (simp only [be1, bs1, ba1] at hx2941 ⊢; exact hx2941) | exact hx2941) ?_
                intro v2944 H2942 G2945 w2943 e2946 h2947
                have h2948 := Rep.mono _ e2946 h2920
                have h2949 := Rep.mono _ e2946 h2921
                have h2950 := Rep.mono _ e2946 h2922
                have h2951 := Rep.mono _ e2946 h2923
                have h2952 := Rep.mono _ e2946 h2924
                have h2953 := Rep.mono _ e2946 h2925
                have h2954 := Rep.mono _ e2946 h2926
                have h2955 := Rep.mono _ e2946 h2927
                have h2956 := Rep.mono _ e2946 h2928
                have h2957 := Rep.mono _ e2946 h2929
                obtain ⟨s3047, hx3048, hb2685⟩ := bindS hb2685
                refine o_cut (fun σ' H' => ∃ v3049 : V, ∃ G' : Hp, Wo G H [] G' H' [(p2617, cL (rP rS rI) s2680.2.2.2.2.2.1), (p2600, cL (rP rS rI) s3047.2), (p2566, cL (rP rS rI) s2680.2.2.2.1), (p2368, cL (rP rS rI) x2874.2), (p2370, cL rS s2772.2), (p2143, cM Sum.inr rI s2772.1), (p1997, cL rI x2823.2)] ∧ Evl.Ex G2945 G' ∧ σ' = [some vscript0, some (V.ref p1997), some (V.ref p2011), some (V.int size_2021), some v2030, some (V.ref p2073), some (V.ref p2109), some v2364, some (V.ref p2143), some v2366, some (V.ref p2370), some v2565, some v2584, some (V.ref p2600), some (V.ref p2617), some (V.int x2693), some (V.str x2745), some v3049, some v2944] ∧ (rD K).r G' v3049 s3047.1) ?_ ?_
                · obtain ⟨b2958, hx3054, hx3048⟩ := bindS hx3048
                  refine x_if w2943 (et_T (e_op (rr_notN nnI) (e_var (R := (rO rI)) (x := told_2940) rfl (Rep.mono _ w2943.ex h2947)) e_non)) (by first | (simp only [be1, bs1, ba1] at hx3054 ⊢; exact hx3054) | exact hx3054) ?_ ?_
                  · intro hbb2958 H3055 w3056
                    subst hbb2958
                    have hx3048 := bifT hx3048
                    obtain ⟨due_3057, hx3058, hx3048⟩ := bindS hx3048
                    refine x_set w3056 (e_toD (K := K) (e_pair e_str (e_var (R := (rO rI)) (x := told_2940) rfl h2947)) (dtP dtS (dtO dtI)) (by decide)) hx3058 ?_
                    intro v3061 H3059 G3062 w3060 e3063 h3064
                    have h3065 := Rep.mono _ e3063 h2948
                    have h3066 := Rep.mono _ e3063 h2949
                    have h3067 := Rep.mono _ e3063 h2950
                    have h3068 := Rep.mono _ e3063 h2951
                    have h3069 := Rep.mono _ e3063 h2952
                    have h3070 := Rep.mono _ e3063 h2953
                    have h3071 := Rep.mono _ e3063 h2954
                    have h3072 := Rep.mono _ e3063 h2955
                    have h3073 := Rep.mono _ e3063 h2956
                    have h3074 := Rep.mono _ e3063 h2957
                    have h3075 := Rep.mono _ e3063 h2947
                    refine x_next ?_
                    have hx3048 : (due_3057, s2680.2.2.2.2.1) = s3047 := Option.some.inj hx3048
                    subst hx3048
                    exact ⟨v3061, G3062, w3060, e3063, rfl, h3064⟩
                  · intro hbb2958 H3076 w3077
                    subst hbb2958
                    have hx3048 := bifF hx3048
                    obtain ⟨s3102, hx3103, hx3048⟩ := bindS hx3048
                    refine o_cut (fun σ' H' => ∃ G' : Hp, Wo G H [] G' H' [(p2617, cL (rP rS rI) s2680.2.2.2.2.2.1), (p2600, cL (rP rS rI) s3102), (p2566, cL (rP rS rI) s2680.2.2.2.1), (p2368, cL (rP rS rI) x2874.2), (p2370, cL rS s2772.2), (p2143, cM Sum.inr rI s2772.1), (p1997, cL rI x2823.2)] ∧ Evl.Ex G2945 G' ∧ σ' = [some vscript0, some (V.ref p1997), some (V.ref p2011), some (V.int size_2021), some v2030, some (V.ref p2073), some (V.ref p2109), some v2364, some (V.ref p2143), some v2366, some (V.ref p2370), some v2565, some v2584, some (V.ref p2600), some (V.ref p2617), some (V.int x2693), some (V.str x2745), some v2805, some v2944]) ?_ ?_
                    · obtain ⟨b3079, hx3107, hx3103⟩ := bindS hx3103
                      refine x_if w3077 (et_T (e_op rr_eqDD (e_ixD 0 (by decide) (e_var (R := (rD K)) (x := due_2801) rfl (Rep.mono _ w3077.ex h2957))) (e_toD (K := K) e_str dtS (by decide)))) (by first | (simp only [be1, bs1, ba1] at hx3107 ⊢; exact hx3107) | exact hx3107) ?_ ?_
                      · intro hbb3079 H3108 w3109
                        subst hbb3079
                        have hx3103 := bifT hx3103
                        obtain ⟨a3112, hx3114, hx3103⟩ := bindS hx3103
                        obtain ⟨own_3113, hx3115, hx3103⟩ := bindS hx3103
                        obtain ⟨hs3116, rfl⟩ := appM_ok hx3115
                        refine x_app (j := 1) w3109 rfl hs3116 rfl (e_pair (e_var (R := rS) (x := x2745) rfl rfl) (e_intD (e_ixD 1 (by decide) (e_var (R := (rD K)) (x := due_2801) rfl h2957)))) (by first | (simp only [be1, bs1, ba1] at hx3114 ⊢; exact hx3114) | exact hx3114) ?_
                        intro H3117 G3118 w3119 e3120
                        have h3121 := Rep.mono _ e3120 h2948
                        have h3122 := Rep.mono _ e3120 h2949
                        have h3123 := Rep.mono _ e3120 h2950
                        have h3124 := Rep.mono _ e3120 h2951
                        have h3125 := Rep.mono _ e3120 h2952
                        have h3126 := Rep.mono _ e3120 h2953
                        have h3127 := Rep.mono _ e3120 h2954
                        have h3128 := Rep.mono _ e3120 h2955
                        have h3129 := Rep.mono _ e3120 h2956
                        have h3130 := Rep.mono _ e3120 h2957
                        have h3131 := Rep.mono _ e3120 h2947
                        have w3119 : Wo G H [] G3118 H3117 [(p2617, cL (rP rS rI) s2680.2.2.2.2.2.1), (p2600, cL (rP rS rI) (s2680.2.2.2.2.1 ++ [a3112])), (p2566, cL (rP rS rI) s2680.2.2.2.1), (p2368, cL (rP rS rI) x2874.2), (p2370, cL rS s2772.2), (p2143, cM Sum.inr rI s2772.1), (p1997, cL rI x2823.2)] := w3119
                        refine x_next ?_
                        have hx3103 : (s2680.2.2.2.2.1 ++ [a3112]) = s3102 := Option.some.inj hx3103
                        subst hx3103
                        exact ⟨G3118, w3119, e3120, rfl⟩
                      · intro hbb3079 H3132 w3133
                        subst hbb3079
                        have hx3103 := bifF hx3103
                        refine x_next ?_
                        have hx3103 : s2680.2.2.2.2.1 = s3102 := Option.some.inj hx3103
                        subst hx3103
                        exact ⟨G2945, w3133, (Evl.Ex.refl _), rfl⟩
                    · rintro σ' H3146 ⟨G3134, w3105, e3104, rfl⟩
                      have h3135 := Rep.mono _ e3104 h2948
                      have h3136 := Rep.mono _ e3104 h2949
                      have h3137 := Rep.mono _ e3104 h2950
                      have h3138 := Rep.mono _ e3104 h2951
                      have h3139 := Rep.mono _ e3104 h2952
                      have h3140 := Rep.mono _ e3104 h2953
                      have h3141 := Rep.mono _ e3104 h2954
                      have h3142 := Rep.mono _ e3104 h2955
                      have h3143 := Rep.mono _ e3104 h2956
                      have h3144 := Rep.mono _ e3104 h2957
                      have h3145 := Rep.mono _ e3104 h2947
                      refine x_next ?_
                      have hx3048 : (due_2801, s3102) = s3047 := Option.some.inj hx3048
                      subst hx3048
                      exact ⟨v2805, G3134, w3105, e3104, rfl, h3144⟩
                · rintro σ' H3158 ⟨v3049, G3147, w3052, e3051, rfl, h3050⟩
                  have h3148 := Rep.mono _ e3051 h2948
                  have h3149 := Rep.mono _ e3051 h2949
                  have h3150 := Rep.mono _ e3051 h2950
                  have h3151 := Rep.mono _ e3051 h2951
                  have h3152 := Rep.mono _ e3051 h2952
                  have h3153 := Rep.mono _ e3051 h2953
                  have h3154 := Rep.mono _ e3051 h2954
                  have h3155 := Rep.mono _ e3051 h2955
                  have h3156 := Rep.mono _ e3051 h2956
                  have h3157 := Rep.mono _ e3051 h2947
                  refine o_if ?_
                  refine o_or ?_
                  refine o_T ?_
                  refine o_op ?_
                  refine o_call ?_
                  refine o_cons ?_
                  refine o_var rfl ?_
                  refine o_cons ?_
                  obtain ⟨x3159, hx3160, hb2685⟩ := bindS hb2685
                  refine c_s w3052 (e_var (R := rS) (x := x2745) rfl rfl) hx3160 ?_
                  intro H3161 w3162
                  refine o_cons ?_
                  obtain ⟨x3164, hx3165, hb2685⟩ := bindS hb2685
                  refine c_b w3162 e_bl hx3165 ?_
                  intro H3166 w3167
                  refine o_nil ?_
                  obtain ⟨x3169, hx3170, hb2685⟩ := bindS hb2685
                  refine c_pq (j := 3) (i := ((p2368, s2362.2.1), x3159, x3164, ())) w3167 rfl ⟨_, _, rfl, h3154, _, _, rfl, rfl, _, _, rfl, rfl, rfl⟩ hx3170 ?_
                  intro u3171 H3172 G3173 w3174 e3175 r3176
                  have h3177 := Rep.mono _ e3175 h3148
                  have h3178 := Rep.mono _ e3175 h3149
                  have h3179 := Rep.mono _ e3175 h3150
                  have h3180 := Rep.mono _ e3175 h3151
                  have h3181 := Rep.mono _ e3175 h3152
                  have h3182 := Rep.mono _ e3175 h3153
                  have h3183 := Rep.mono _ e3175 h3154
                  have h3184 := Rep.mono _ e3175 h3155
                  have h3185 := Rep.mono _ e3175 h3156
                  have h3186 := Rep.mono _ e3175 h3050
                  have h3187 := Rep.mono _ e3175 h3157
                  have w3174 : Wo G H [] G3173 H3172 [(p2617, cL (rP rS rI) s2680.2.2.2.2.2.1), (p2600, cL (rP rS rI) s3047.2), (p2566, cL (rP rS rI) s2680.2.2.2.1), (p2368, cL (rP rS rI) x3169.2), (p2370, cL rS s2772.2), (p2143, cM Sum.inr rI s2772.1), (p1997, cL rI x2823.2)] := w3174
                  obtain ⟨x3189, hx3190, hb2685⟩ := bindS hb2685
                  refine c_e w3174 (e_var (R := (rD K)) (x := s3047.1) rfl h3186) hx3190 ?_
                  intro v3193 H3191 G3194 w3192 e3195 h3196
                  have h3197 := Rep.mono _ e3195 h3177
                  have h3198 := Rep.mono _ e3195 h3178
                  have h3199 := Rep.mono _ e3195 h3179
                  have h3200 := Rep.mono _ e3195 h3180
                  have h3201 := Rep.mono _ e3195 h3181
                  have h3202 := Rep.mono _ e3195 h3182
                  have h3203 := Rep.mono _ e3195 h3183
                  have h3204 := Rep.mono _ e3195 h3184
                  have h3205 := Rep.mono _ e3195 h3185
                  have h3206 := Rep.mono _ e3195 h3186
                  have h3207 := Rep.mono _ e3195 h3187
                  have h3208 := Rep.mono _ e3195 r3176
                  obtain ⟨x3209, hx3210, hb2685⟩ := bindS hb2685
                  refine c_rr rr_neDD w3192 h3208 h3196 hx3210 ?_
                  intro u3211 H3212 G3213 w3214 e3215 r3216
                  have h3217 := Rep.mono _ e3215 h3197
                  have h3218 := Rep.mono _ e3215 h3198
                  have h3219 := Rep.mono _ e3215 h3199
                  have h3220 := Rep.mono _ e3215 h3200
                  have h3221 := Rep.mono _ e3215 h3201
                  have h3222 := Rep.mono _ e3215 h3202
                  have h3223 := Rep.mono _ e3215 h3203
                  have h3224 := Rep.mono _ e3215 h3204
                  have h3225 := Rep.mono _ e3215 h3205
                  have h3226 := Rep.mono _ e3215 h3206
                  have h3227 := Rep.mono _ e3215 h3207
                  have h3228 := Rep.mono _ e3215 h3208
                  cases r3216
                  refine ⟨_, rfl, ite_b ?_ ?_⟩
                  · intro hb3392
                    rw [hb3392] at hb2685
                    have hb2685 := bifT hb2685
                    refine o_tt ?_
                    obtain ⟨a3229, hx3230, hb2685⟩ := bindS hb2685
                    have hb2685 : some (Stp.rt a3229) = some q2687 := hb2685
                    cases hb2685
                    have hm2686 : some (Sum.inr a3229) = some t2678 := hm2686
                    cases hm2686
                    have h : a3229 = r := Option.some.inj h
                    subst h
                    exact x_ret w3214 e_bl hx3230 (fun v9 H9 G9 w9 e9 r9 => k v9 H9 G9 w9.upE r9)
                  · intro hb3392
                    rw [hb3392] at hb2685
                    have hb2685 := bifF hb2685
                    obtain ⟨b3232, hx3233, hb2685⟩ := bindS hb2685
                    refine c_t w3214 (et_not (et_B (e_call (ea_cons (e_cellA (j := 3) w3214 rfl (e_fld (S := rA) 1 (fun (o : Addr × m_TableAsker) => o.1) (e_var (R := rS_TableAsker K) (x := (p2368, s2362.2.1)) rfl h3223) (T.cls 53 rfl) (T.noat 55 rfl) (by decide +kernel) (fun _ => rfl))) (ea_cons (e_var (R := (rL (rP rS rI))) (x := s3047.2) rfl (w3214.rlAt (i := 1) rfl)) ea_nil))))) (by first | (simp only [be1, bs1, ba1] at hx3233 ⊢; exact hx3233) | exact hx3233) ?_
                    intro H3234 w3235
                    refine ite_b ?_ ?_
                    · intro hb3391
                      rw [hb3391] at hb2685
                      have hb2685 := bifT hb2685
                      obtain ⟨a3236, hx3237, hb2685⟩ := bindS hb2685
                      have hb2685 : some (Stp.rt a3236) = some q2687 := hb2685
                      cases hb2685
                      have hm2686 : some (Sum.inr a3236) = some t2678 := hm2686
                      cases hm2686
                      have h : a3236 = r := Option.some.inj h
                      subst h
                      exact x_ret w3235 e_bl hx3237 (fun v9 H9 G9 w9 e9 r9 => k v9 H9 G9 w9.upE r9)
                    · intro hb3391
                      rw [hb3391] at hb2685
                      have hb2685 := bifF hb2685
                      refine x_next ?_
                      obtain ⟨s3262, hx3263, hb2685⟩ := bindS hb2685
                      refine o_cut (fun σ' H' => ∃ G' : Hp, Wo G H [] G' H' [(p2617, cL (rP rS rI) s3262), (p2600, cL (rP rS rI) s3047.2), (p2566, cL (rP rS rI) s2680.2.2.2.1), (p2368, cL (rP rS rI) x3169.2), (p2370, cL rS s2772.2), (p2143, cM Sum.inr rI s2772.1), (p1997, cL rI x2823.2)] ∧ Evl.Ex G3213 G' ∧ σ' = [some vscript0, some (V.ref p1997), some (V.ref p2011), some (V.int size_2021), some v2030, some (V.ref p2073), some (V.ref p2109), some v2364, some (V.ref p2143), some v2366, some (V.ref p2370), some v2565, some v2584, some (V.ref p2600), some (V.ref p2617), some (V.int x2693), some (V.str x2745), some v3049, some v2944]) ?_ ?_
                      · obtain ⟨b3239, hx3267, hx3263⟩ := bindS hx3263
                        refine x_if w3235 (et_T (e_op (rr_isN nnI) (e_call (ea_cons (e_var (R := (rL (rP rS rI))) (x := s2680.2.2.2.2.2.1) rfl (w3235.rlAt (i := 0) rfl)) (ea_cons (e_var (R := rS) (x := x2745) rfl rfl) ea_nil))) e_non)) (by first | (simp only [be1, bs1, ba1] at hx3267 ⊢; exact hx3267) | exact hx3267) ?_ ?_
                        · intro hbb3239 H3268 w3269
                          subst hbb3239
                          have hx3263 := bifT hx3263
                          obtain ⟨a3272, hx3274, hx3263⟩ := bindS hx3263
                          obtain ⟨plain_3273, hx3275, hx3263⟩ := bindS hx3263
                          obtain ⟨hs3276, rfl⟩ := appM_ok hx3275
                          refine x_app (j := 0) w3269 rfl hs3276 rfl (e_pair (e_var (R := rS) (x := x2745) rfl rfl) (e_bmL (rbm_index flI) (e_var (R := (rL rI)) (x := x2007.1) rfl h3218) (ea_cons (e_cb rc_minL (ea_cons (e_var (R := (rL rI)) (x := x2007.1) rfl h3218) ea_nil)) ea_nil))) (by first | (simp only [be1, bs1, ba1] at hx3274 ⊢; exact hx3274) | exact hx3274) ?_
                          intro H3277 G3278 w3279 e3280
                          have h3281 := Rep.mono _ e3280 h3217
                          have h3282 := Rep.mono _ e3280 h3218
                          have h3283 := Rep.mono _ e3280 h3219
                          have h3284 := Rep.mono _ e3280 h3220
                          have h3285 := Rep.mono _ e3280 h3221
                          have h3286 := Rep.mono _ e3280 h3222
                          have h3287 := Rep.mono _ e3280 h3223
                          have h3288 := Rep.mono _ e3280 h3224
                          have h3289 := Rep.mono _ e3280 h3225
                          have h3290 := Rep.mono _ e3280 h3226
                          have h3291 := Rep.mono _ e3280 h3227
                          have w3279 : Wo G H [] G3278 H3277 [(p2617, cL (rP rS rI) (s2680.2.2.2.2.2.1 ++ [a3272])), (p2600, cL (rP rS rI) s3047.2), (p2566, cL (rP rS rI) s2680.2.2.2.1), (p2368, cL (rP rS rI) x3169.2), (p2370, cL rS s2772.2), (p2143, cM Sum.inr rI s2772.1), (p1997, cL rI x2823.2)] := w3279
                          refine x_next ?_
                          have hx3263 : (s2680.2.2.2.2.2.1 ++ [a3272]) = s3262 := Option.some.inj hx3263
                          subst hx3263
                          exact ⟨G3278, w3279, e3280, rfl⟩
                        · intro hbb3239 H3292 w3293
                          subst hbb3239
                          have hx3263 := bifF hx3263
                          refine x_next ?_
                          have hx3263 : s2680.2.2.2.2.2.1 = s3262 := Option.some.inj hx3263
                          subst hx3263
                          exact ⟨G3213, w3293, (Evl.Ex.refl _), rfl⟩
                      · rintro σ' H3306 ⟨G3294, w3265, e3264, rfl⟩
                        have h3295 := Rep.mono _ e3264 h3217
                        have h3296 := Rep.mono _ e3264 h3218
                        have h3297 := Rep.mono _ e3264 h3219
                        have h3298 := Rep.mono _ e3264 h3220
                        have h3299 := Rep.mono _ e3264 h3221
                        have h3300 := Rep.mono _ e3264 h3222
                        have h3301 := Rep.mono _ e3264 h3223
                        have h3302 := Rep.mono _ e3264 h3224
                        have h3303 := Rep.mono _ e3264 h3225
                        have h3304 := Rep.mono _ e3264 h3226
                        have h3305 := Rep.mono _ e3264 h3227
                        refine o_if ?_
                        refine o_or ?_
                        refine o_T ?_
                        refine o_op ?_
                        refine o_call ?_
                        refine o_cons ?_
                        refine o_var rfl ?_
                        refine o_cons ?_
                        obtain ⟨x3307, hx3308, hb2685⟩ := bindS hb2685
                        refine c_s w3265 (e_var (R := rS) (x := x2745) rfl rfl) hx3308 ?_
                        intro H3309 w3310
                        refine o_cons ?_
                        obtain ⟨x3312, hx3313, hb2685⟩ := bindS hb2685
                        refine c_b w3310 e_bl hx3313 ?_
                        intro H3314 w3315
                        refine o_nil ?_
                        obtain ⟨x3317, hx3318, hb2685⟩ := bindS hb2685
                        refine c_pq (j := 2) (i := ((p2566, other_2563), x3307, x3312, ())) w3315 rfl ⟨_, _, rfl, h3302, _, _, rfl, rfl, _, _, rfl, rfl, rfl⟩ hx3318 ?_
                        intro u3319 H3320 G3321 w3322 e3323 r3324
                        have h3325 := Rep.mono _ e3323 h3295
                        have h3326 := Rep.mono _ e3323 h3296
                        have h3327 := Rep.mono _ e3323 h3297
                        have h3328 := Rep.mono _ e3323 h3298
                        have h3329 := Rep.mono _ e3323 h3299
                        have h3330 := Rep.mono _ e3323 h3300
                        have h3331 := Rep.mono _ e3323 h3301
                        have h3332 := Rep.mono _ e3323 h3302
                        have h3333 := Rep.mono _ e3323 h3303
                        have h3334 := Rep.mono _ e3323 h3304
                        have h3335 := Rep.mono _ e3323 h3305
                        have w3322 : Wo G H [] G3321 H3320 [(p2617, cL (rP rS rI) s3262), (p2600, cL (rP rS rI) s3047.2), (p2566, cL (rP rS rI) x3317.2), (p2368, cL (rP rS rI) x3169.2), (p2370, cL rS s2772.2), (p2143, cM Sum.inr rI s2772.1), (p1997, cL rI x2823.2)] := w3322
                        obtain ⟨x3340, hx3341, hb2685⟩ := bindS hb2685
                        refine c_e w3322 (e_toD (K := K) (e_pair e_str (e_bmL (rbm_index flI) (e_var (R := (rL rI)) (x := x2007.1) rfl h3326) (ea_cons (e_cb rc_minL (ea_cons (e_var (R := (rL rI)) (x := x2007.1) rfl h3326) ea_nil)) ea_nil))) (dtP dtS dtI) (by decide)) (by first | (simp only [be1, bs1, ba1] at hx3341 ⊢; exact hx3341) | exact hx3341) ?_
                        intro v3344 H3342 G3345 w3343 e3346 h3347
                        have h3348 := Rep.mono _ e3346 h3325
                        have h3349 := Rep.mono _ e3346 h3326
                        have h3350 := Rep.mono _ e3346 h3327
                        have h3351 := Rep.mono _ e3346 h3328
                        have h3352 := Rep.mono _ e3346 h3329
                        have h3353 := Rep.mono _ e3346 h3330
                        have h3354 := Rep.mono _ e3346 h3331
                        have h3355 := Rep.mono _ e3346 h3332
                        have h3356 := Rep.mono _ e3346 h3333
                        have h3357 := Rep.mono _ e3346 h3334
                        have h3358 := Rep.mono _ e3346 h3335
                        have h3359 := Rep.mono _ e3346 r3324
                        obtain ⟨x3360, hx3361, hb2685⟩ := bindS hb2685
                        refine c_rr rr_neDD w3343 h3359 h3347 hx3361 ?_
                        intro u3362 H3363 G3364 w3365 e3366 r3367
                        have h3368 := Rep.mono _ e3366 h3348
                        have h3369 := Rep.mono _ e3366 h3349
                        have h3370 := Rep.mono _ e3366 h3350
                        have h3371 := Rep.mono _ e3366 h3351
                        have h3372 := Rep.mono _ e3366 h3352
                        have h3373 := Rep.mono _ e3366 h3353
                        have h3374 := Rep.mono _ e3366 h3354
                        have h3375 := Rep.mono _ e3366 h3355
                        have h3376 := Rep.mono _ e3366 h3356
                        have h3377 := Rep.mono _ e3366 h3357
                        have h3378 := Rep.mono _ e3366 h3358
                        have h3379 := Rep.mono _ e3366 h3359
                        cases r3367
                        refine ⟨_, rfl, ite_b ?_ ?_⟩
                        · intro hb3390
                          rw [hb3390] at hb2685
                          have hb2685 := bifT hb2685
                          refine o_tt ?_
                          obtain ⟨a3380, hx3381, hb2685⟩ := bindS hb2685
                          have hb2685 : some (Stp.rt a3380) = some q2687 := hb2685
                          cases hb2685
                          have hm2686 : some (Sum.inr a3380) = some t2678 := hm2686
                          cases hm2686
                          have h : a3380 = r := Option.some.inj h
                          subst h
                          exact x_ret w3365 e_bl hx3381 (fun v9 H9 G9 w9 e9 r9 => k v9 H9 G9 w9.upE r9)
                        · intro hb3390
                          rw [hb3390] at hb2685
                          have hb2685 := bifF hb2685
                          obtain ⟨b3383, hx3384, hb2685⟩ := bindS hb2685
                          refine c_t w3365 (et_not (et_B (e_call (ea_cons (e_cellA (j := 2) w3365 rfl (e_fld (S := rA) 1 (fun (o : Addr × m_TableAsker) => o.1) (e_var (R := rS_TableAsker K) (x := (p2566, other_2563)) rfl h3375) (T.cls 53 rfl) (T.noat 55 rfl) (by decide +kernel) (fun _ => rfl))) (ea_cons (e_var (R := (rL (rP rS rI))) (x := s3262) rfl (w3365.rlAt (i := 0) rfl)) ea_nil))))) (by first | (simp only [be1, bs1, ba1] at hx3384 ⊢; exact hx3384) | exact hx3384) ?_
                          intro H3385 w3386
                          refine ite_b ?_ ?_
                          · intro hb3389
                            rw [hb3389] at hb2685
                            have hb2685 := bifT hb2685
                            obtain ⟨a3387, hx3388, hb2685⟩ := bindS hb2685
                            have hb2685 : some (Stp.rt a3387) = some q2687 := hb2685
                            cases hb2685
                            have hm2686 : some (Sum.inr a3387) = some t2678 := hm2686
                            cases hm2686
                            have h : a3387 = r := Option.some.inj h
                            subst h
                            exact x_ret w3386 e_bl hx3388 (fun v9 H9 G9 w9 e9 r9 => k v9 H9 G9 w9.upE r9)
                          · intro hb3389
                            rw [hb3389] at hb2685
                            have hb2685 := bifF hb2685
                            refine x_next ?_
                            refine x_next ?_
                            have hb2685 : Stp.nx (x3169.2, (s2772.1, (s2772.2, (x3317.2, (s3047.2, (s3262, x2823.2)))))) = q2687 := Option.some.inj hb2685
                            subst hb2685
                            exact ⟨G3364, (x3169.2, (s2772.1, (s2772.2, (x3317.2, (s3047.2, (s3262, x2823.2)))))), (some v3049), (some (V.int x2693)), (some (V.str x2745)), (some v2944), w3386, (((((((((((((((((((e2690.trans e2710).trans e2733).trans e2751).trans e2774).trans e2807).trans e2829).trans e2852).trans e2880).trans e2899).trans e2918).trans e2946).trans e3051).trans e3175).trans e3195).trans e3215).trans e3264).trans e3323).trans e3346).trans e3366), rfl, hm2686⟩
          · intro hb3849
            rw [hb3849] at hb2685
            have hb2685 := bifF hb2685
            refine x_next ?_
            obtain ⟨told_3396, hx3397, hb2685⟩ := bindS hb2685
            refine x_set w2851 (Sim.E.s (scO scI) (e_call (ea_cons (e_var (R := (rL (rP rS rI))) (x := s2680.2.2.2.2.1) rfl (w2851.rlAt (i := 1) rfl)) (ea_cons (e_var (R := rS) (x := x2745) rfl rfl) ea_nil)))) (by first | (simp only [be1, bs1, ba1] at hx3397 ⊢; exact hx3397) | exact hx3397) ?_
            intro v3400 H3398 G3401 w3399 e3402 h3403
            have h3404 := Rep.mono _ e3402 h2854
            have h3405 := Rep.mono _ e3402 h2855
            have h3406 := Rep.mono _ e3402 h2856
            have h3407 := Rep.mono _ e3402 h2857
            have h3408 := Rep.mono _ e3402 h2858
            have h3409 := Rep.mono _ e3402 h2859
            have h3410 := Rep.mono _ e3402 h2860
            have h3411 := Rep.mono _ e3402 h2861
            have h3412 := Rep.mono _ e3402 h2862
            have h3413 := Rep.mono _ e3402 h2863
            obtain ⟨s3503, hx3504, hb2685⟩ := bindS hb2685
            refine o_cut (fun σ' H' => ∃ v3505 : V, ∃ G' : Hp, Wo G H [] G' H' [(p2617, cL (rP rS rI) s2680.2.2.2.2.2.1), (p2600, cL (rP rS rI) s3503.2), (p2566, cL (rP rS rI) s2680.2.2.2.1), (p2368, cL (rP rS rI) s2680.1), (p2370, cL rS s2772.2), (p2143, cM Sum.inr rI s2772.1), (p1997, cL rI x2823.2)] ∧ Evl.Ex G3401 G' ∧ σ' = [some vscript0, some (V.ref p1997), some (V.ref p2011), some (V.int size_2021), some v2030, some (V.ref p2073), some (V.ref p2109), some v2364, some (V.ref p2143), some v2366, some (V.ref p2370), some v2565, some v2584, some (V.ref p2600), some (V.ref p2617), some (V.int x2693), some (V.str x2745), some v3505, some v3400] ∧ (rD K).r G' v3505 s3503.1) ?_ ?_
            · obtain ⟨b3414, hx3510, hx3504⟩ := bindS hx3504
              refine x_if w3399 (et_T (e_op (rr_notN nnI) (e_var (R := (rO rI)) (x := told_3396) rfl (Rep.mono _ w3399.ex h3403)) e_non)) (by first | (simp only [be1, bs1, ba1] at hx3510 ⊢; exact hx3510) | exact hx3510) ?_ ?_
              · intro hbb3414 H3511 w3512
                subst hbb3414
                have hx3504 := bifT hx3504
                obtain ⟨due_3513, hx3514, hx3504⟩ := bindS hx3504
                refine x_set w3512 (e_toD (K := K) (e_pair e_str (e_var (R := (rO rI)) (x := told_3396) rfl h3403)) (dtP dtS (dtO dtI)) (by decide)) hx3514 ?_
                intro v3517 H3515 G3518 w3516 e3519 h3520
                have h3521 := Rep.mono _ e3519 h3404
                have h3522 := Rep.mono _ e3519 h3405
                have h3523 := Rep.mono _ e3519 h3406
                have h3524 := Rep.mono _ e3519 h3407
                have h3525 := Rep.mono _ e3519 h3408
                have h3526 := Rep.mono _ e3519 h3409
                have h3527 := Rep.mono _ e3519 h3410
                have h3528 := Rep.mono _ e3519 h3411
                have h3529 := Rep.mono _ e3519 h3412
                have h3530 := Rep.mono _ e3519 h3413
                have h3531 := Rep.mono _ e3519 h3403
                refine x_next ?_
                have hx3504 : (due_3513, s2680.2.2.2.2.1) = s3503 := Option.some.inj hx3504
                subst hx3504
                exact ⟨v3517, G3518, w3516, e3519, rfl, h3520⟩
              · intro hbb3414 H3532 w3533
                subst hbb3414
                have hx3504 := bifF hx3504
                obtain ⟨s3558, hx3559, hx3504⟩ := bindS hx3504
                refine o_cut (fun σ' H' => ∃ G' : Hp, Wo G H [] G' H' [(p2617, cL (rP rS rI) s2680.2.2.2.2.2.1), (p2600, cL (rP rS rI) s3558), (p2566, cL (rP rS rI) s2680.2.2.2.1), (p2368, cL (rP rS rI) s2680.1), (p2370, cL rS s2772.2), (p2143, cM Sum.inr rI s2772.1), (p1997, cL rI x2823.2)] ∧ Evl.Ex G3401 G' ∧ σ' = [some vscript0, some (V.ref p1997), some (V.ref p2011), some (V.int size_2021), some v2030, some (V.ref p2073), some (V.ref p2109), some v2364, some (V.ref p2143), some v2366, some (V.ref p2370), some v2565, some v2584, some (V.ref p2600), some (V.ref p2617), some (V.int x2693), some (V.str x2745), some v2805, some v3400]) ?_ ?_
                · obtain ⟨b3535, hx3563, hx3559⟩ := bindS hx3559
                  refine x_if w3533 (et_T (e_op rr_eqDD (e_ixD 0 (by decide) (e_var (R := (rD K)) (x := due_2801) rfl (Rep.mono _ w3533.ex h3413))) (e_toD (K := K) e_str dtS (by decide)))) (by first | (simp only [be1, bs1, ba1] at hx3563 ⊢; exact hx3563) | exact hx3563) ?_ ?_
                  · intro hbb3535 H3564 w3565
                    subst hbb3535
                    have hx3559 := bifT hx3559
                    obtain ⟨a3568, hx3570, hx3559⟩ := bindS hx3559
                    obtain ⟨own_3569, hx3571, hx3559⟩ := bindS hx3559
                    obtain ⟨hs3572, rfl⟩ := appM_ok hx3571
                    refine x_app (j := 1) w3565 rfl hs3572 rfl (e_pair (e_var (R := rS) (x := x2745) rfl rfl) (e_intD (e_ixD 1 (by decide) (e_var (R := (rD K)) (x := due_2801) rfl h3413)))) (by first | (simp only [be1, bs1, ba1] at hx3570 ⊢; exact hx3570) | exact hx3570) ?_
                    intro H3573 G3574 w3575 e3576
                    have h3577 := Rep.mono _ e3576 h3404
                    have h3578 := Rep.mono _ e3576 h3405
                    have h3579 := Rep.mono _ e3576 h3406
                    have h3580 := Rep.mono _ e3576 h3407
                    have h3581 := Rep.mono _ e3576 h3408
                    have h3582 := Rep.mono _ e3576 h3409
                    have h3583 := Rep.mono _ e3576 h3410
                    have h3584 := Rep.mono _ e3576 h3411
                    have h3585 := Rep.mono _ e3576 h3412
                    have h3586 := Rep.mono _ e3576 h3413
                    have h3587 := Rep.mono _ e3576 h3403
                    have w3575 : Wo G H [] G3574 H3573 [(p2617, cL (rP rS rI) s2680.2.2.2.2.2.1), (p2600, cL (rP rS rI) (s2680.2.2.2.2.1 ++ [a3568])), (p2566, cL (rP rS rI) s2680.2.2.2.1), (p2368, cL (rP rS rI) s2680.1), (p2370, cL rS s2772.2), (p2143, cM Sum.inr rI s2772.1), (p1997, cL rI x2823.2)] := w3575
                    refine x_next ?_
                    have hx3559 : (s2680.2.2.2.2.1 ++ [a3568]) = s3558 := Option.some.inj hx3559
                    subst hx3559
                    exact ⟨G3574, w3575, e3576, rfl⟩
                  · intro hbb3535 H3588 w3589
                    subst hbb3535
                    have hx3559 := bifF hx3559
                    refine x_next ?_
                    have hx3559 : s2680.2.2.2.2.1 = s3558 := Option.some.inj hx3559
                    subst hx3559
                    exact ⟨G3401, w3589, (Evl.Ex.refl _), rfl⟩
                · rintro σ' H3602 ⟨G3590, w3561, e3560, rfl⟩
                  have h3591 := Rep.mono _ e3560 h3404
                  have h3592 := Rep.mono _ e3560 h3405
                  have h3593 := Rep.mono _ e3560 h3406
                  have h3594 := Rep.mono _ e3560 h3407
                  have h3595 := Rep.mono _ e3560 h3408
                  have h3596 := Rep.mono _ e3560 h3409
                  have h3597 := Rep.mono _ e3560 h3410
                  have h3598 := Rep.mono _ e3560 h3411
                  have h3599 := Rep.mono _ e3560 h3412
                  have h3600 := Rep.mono _ e3560 h3413
                  have h3601 := Rep.mono _ e3560 h3403
                  refine x_next ?_
                  have hx3504 : (due_2801, s3558) = s3503 := Option.some.inj hx3504
                  subst hx3504
                  exact ⟨v2805, G3590, w3561, e3560, rfl, h3600⟩
            · rintro σ' H3614 ⟨v3505, G3603, w3508, e3507, rfl, h3506⟩
              have h3604 := Rep.mono _ e3507 h3404
              have h3605 := Rep.mono _ e3507 h3405
              have h3606 := Rep.mono _ e3507 h3406
              have h3607 := Rep.mono _ e3507 h3407
              have h3608 := Rep.mono _ e3507 h3408
              have h3609 := Rep.mono _ e3507 h3409
              have h3610 := Rep.mono _ e3507 h3410
              have h3611 := Rep.mono _ e3507 h3411
              have h3612 := Rep.mono _ e3507 h3412
              have h3613 := Rep.mono _ e3507 h3403
              refine o_if ?_
              refine o_or ?_
              refine o_T ?_
              refine o_op ?_
              refine o_call ?_
              refine o_cons ?_
              refine o_var rfl ?_
              refine o_cons ?_
              obtain ⟨x3615, hx3616, hb2685⟩ := bindS hb2685
              refine c_s w3508 (e_var (R := rS) (x := x2745) rfl rfl) hx3616 ?_
              intro H3617 w3618
              refine o_cons ?_
              obtain ⟨x3620, hx3621, hb2685⟩ := bindS hb2685
              refine c_b w3618 e_bl hx3621 ?_
              intro H3622 w3623
              refine o_nil ?_
              obtain ⟨x3625, hx3626, hb2685⟩ := bindS hb2685
              refine c_pq (j := 3) (i := ((p2368, s2362.2.1), x3615, x3620, ())) w3623 rfl ⟨_, _, rfl, h3610, _, _, rfl, rfl, _, _, rfl, rfl, rfl⟩ hx3626 ?_
              intro u3627 H3628 G3629 w3630 e3631 r3632
              have h3633 := Rep.mono _ e3631 h3604
              have h3634 := Rep.mono _ e3631 h3605
              have h3635 := Rep.mono _ e3631 h3606
              have h3636 := Rep.mono _ e3631 h3607
              have h3637 := Rep.mono _ e3631 h3608
              have h3638 := Rep.mono _ e3631 h3609
              have h3639 := Rep.mono _ e3631 h3610
              have h3640 := Rep.mono _ e3631 h3611
              have h3641 := Rep.mono _ e3631 h3612
              have h3642 := Rep.mono _ e3631 h3506
              have h3643 := Rep.mono _ e3631 h3613
              have w3630 : Wo G H [] G3629 H3628 [(p2617, cL (rP rS rI) s2680.2.2.2.2.2.1), (p2600, cL (rP rS rI) s3503.2), (p2566, cL (rP rS rI) s2680.2.2.2.1), (p2368, cL (rP rS rI) x3625.2), (p2370, cL rS s2772.2), (p2143, cM Sum.inr rI s2772.1), (p1997, cL rI x2823.2)] := w3630
              obtain ⟨x3645, hx3646, hb2685⟩ := bindS hb2685
              refine c_e w3630 (e_var (R := (rD K)) (x := s3503.1) rfl h3642) hx3646 ?_
              intro v3649 H3647 G3650 w3648 e3651 h3652
              have h3653 := Rep.mono _ e3651 h3633
              have h3654 := Rep.mono _ e3651 h3634
              have h3655 := Rep.mono _ e3651 h3635
              have h3656 := Rep.mono _ e3651 h3636
              have h3657 := Rep.mono _ e3651 h3637
              have h3658 := Rep.mono _ e3651 h3638
              have h3659 := Rep.mono _ e3651 h3639
              have h3660 := Rep.mono _ e3651 h3640
              have h3661 := Rep.mono _ e3651 h3641
              have h3662 := Rep.mono _ e3651 h3642
              have h3663 := Rep.mono _ e3651 h3643
              have h3664 := Rep.mono _ e3651 r3632
              obtain ⟨x3665, hx3666, hb2685⟩ := bindS hb2685
              refine c_rr rr_neDD w3648 h3664 h3652 hx3666 ?_
              intro u3667 H3668 G3669 w3670 e3671 r3672
              have h3673 := Rep.mono _ e3671 h3653
              have h3674 := Rep.mono _ e3671 h3654
              have h3675 := Rep.mono _ e3671 h3655
              have h3676 := Rep.mono _ e3671 h3656
              have h3677 := Rep.mono _ e3671 h3657
              have h3678 := Rep.mono _ e3671 h3658
              have h3679 := Rep.mono _ e3671 h3659
              have h3680 := Rep.mono _ e3671 h3660
              have h3681 := Rep.mono _ e3671 h3661
              have h3682 := Rep.mono _ e3671 h3662
              have h3683 := Rep.mono _ e3671 h3663
              have h3684 := Rep.mono _ e3671 h3664
              cases r3672
              refine ⟨_, rfl, ite_b ?_ ?_⟩
              · intro hb3848
                rw [hb3848] at hb2685
                have hb2685 := bifT hb2685
                refine o_tt ?_
                obtain ⟨a3685, hx3686, hb2685⟩ := bindS hb2685
                have hb2685 : some (Stp.rt a3685) = some q2687 := hb2685
                cases hb2685
                have hm2686 : some (Sum.inr a3685) = some t2678 := hm2686
                cases hm2686
                have h : a3685 = r := Option.some.inj h
                subst h
                exact x_ret w3670 e_bl hx3686 (fun v9 H9 G9 w9 e9 r9 => k v9 H9 G9 w9.upE r9)
              · intro hb3848
                rw [hb3848] at hb2685
                have hb2685 := bifF hb2685
                obtain ⟨b3688, hx3689, hb2685⟩ := bindS hb2685
                refine c_t w3670 (et_not (et_B (e_call (ea_cons (e_cellA (j := 3) w3670 rfl (e_fld (S := rA) 1 (fun (o : Addr × m_TableAsker) => o.1) (e_var (R := rS_TableAsker K) (x := (p2368, s2362.2.1)) rfl h3679) (T.cls 53 rfl) (T.noat 55 rfl) (by decide +kernel) (fun _ => rfl))) (ea_cons (e_var (R := (rL (rP rS rI))) (x := s3503.2) rfl (w3670.rlAt (i := 1) rfl)) ea_nil))))) (by first | (simp only [be1, bs1, ba1] at hx3689 ⊢; exact hx3689) | exact hx3689) ?_
                intro H3690 w3691
                refine ite_b ?_ ?_
                · intro hb3847
                  rw [hb3847] at hb2685
                  have hb2685 := bifT hb2685
                  obtain ⟨a3692, hx3693, hb2685⟩ := bindS hb2685
                  have hb2685 : some (Stp.rt a3692) = some q2687 := hb2685
                  cases hb2685
                  have hm2686 : some (Sum.inr a3692) = some t2678 := hm2686
                  cases hm2686
                  have h : a3692 = r := Option.some.inj h
                  subst h
                  exact x_ret w3691 e_bl hx3693 (fun v9 H9 G9 w9 e9 r9 => k v9 H9 G9 w9.upE r9)
                · intro hb3847
                  rw [hb3847] at hb2685
                  have hb2685 := bifF hb2685
                  refine x_next ?_
                  obtain ⟨s3718, hx3719, hb2685⟩ := bindS hb2685
                  refine o_cut (fun σ' H' => ∃ G' : Hp, Wo G H [] G' H' [(p2617, cL (rP rS rI) s3718), (p2600, cL (rP rS rI) s3503.2), (p2566, cL (rP rS rI) s2680.2.2.2.1), (p2368, cL (rP rS rI) x3625.2), (p2370, cL rS s2772.2), (p2143, cM Sum.inr rI s2772.1), (p1997, cL rI x2823.2)] ∧ Evl.Ex G3669 G' ∧ σ' = [some vscript0, some (V.ref p1997), some (V.ref p2011), some (V.int size_2021), some v2030, some (V.ref p2073), some (V.ref p2109), some v2364, some (V.ref p2143), some v2366, some (V.ref p2370), some v2565, some v2584, some (V.ref p2600), some (V.ref p2617), some (V.int x2693), some (V.str x2745), some v3505, some v3400]) ?_ ?_
                  · obtain ⟨b3695, hx3723, hx3719⟩ := bindS hx3719
                    refine x_if w3691 (et_T (e_op (rr_isN nnI) (e_call (ea_cons (e_var (R := (rL (rP rS rI))) (x := s2680.2.2.2.2.2.1) rfl (w3691.rlAt (i := 0) rfl)) (ea_cons (e_var (R := rS) (x := x2745) rfl rfl) ea_nil))) e_non)) (by first | (simp only [be1, bs1, ba1] at hx3723 ⊢; exact hx3723) | exact hx3723) ?_ ?_
                    · intro hbb3695 H3724 w3725
                      subst hbb3695
                      have hx3719 := bifT hx3719
                      obtain ⟨a3728, hx3730, hx3719⟩ := bindS hx3719
                      obtain ⟨plain_3729, hx3731, hx3719⟩ := bindS hx3719
                      obtain ⟨hs3732, rfl⟩ := appM_ok hx3731
                      refine x_app (j := 0) w3725 rfl hs3732 rfl (e_pair (e_var (R := rS) (x := x2745) rfl rfl) (e_bmL (rbm_index flI) (e_var (R := (rL rI)) (x := x2007.1) rfl h3674) (ea_cons (e_cb rc_minL (ea_cons (e_var (R := (rL rI)) (x := x2007.1) rfl h3674) ea_nil)) ea_nil))) (by first | (simp only [be1, bs1, ba1] at hx3730 ⊢; exact hx3730) | exact hx3730) ?_
                      intro H3733 G3734 w3735 e3736
                      have h3737 := Rep.mono _ e3736 h3673
                      have h3738 := Rep.mono _ e3736 h3674
                      have h3739 := Rep.mono _ e3736 h3675
                      have h3740 := Rep.mono _ e3736 h3676
                      have h3741 := Rep.mono _ e3736 h3677
                      have h3742 := Rep.mono _ e3736 h3678
                      have h3743 := Rep.mono _ e3736 h3679
                      have h3744 := Rep.mono _ e3736 h3680
                      have h3745 := Rep.mono _ e3736 h3681
                      have h3746 := Rep.mono _ e3736 h3682
                      have h3747 := Rep.mono _ e3736 h3683
                      have w3735 : Wo G H [] G3734 H3733 [(p2617, cL (rP rS rI) (s2680.2.2.2.2.2.1 ++ [a3728])), (p2600, cL (rP rS rI) s3503.2), (p2566, cL (rP rS rI) s2680.2.2.2.1), (p2368, cL (rP rS rI) x3625.2), (p2370, cL rS s2772.2), (p2143, cM Sum.inr rI s2772.1), (p1997, cL rI x2823.2)] := w3735
                      refine x_next ?_
                      have hx3719 : (s2680.2.2.2.2.2.1 ++ [a3728]) = s3718 := Option.some.inj hx3719
                      subst hx3719
                      exact ⟨G3734, w3735, e3736, rfl⟩
                    · intro hbb3695 H3748 w3749
                      subst hbb3695
                      have hx3719 := bifF hx3719
                      refine x_next ?_
                      have hx3719 : s2680.2.2.2.2.2.1 = s3718 := Option.some.inj hx3719
                      subst hx3719
                      exact ⟨G3669, w3749, (Evl.Ex.refl _), rfl⟩
                  · rintro σ' H3762 ⟨G3750, w3721, e3720, rfl⟩
                    have h3751 := Rep.mono _ e3720 h3673
                    have h3752 := Rep.mono _ e3720 h3674
                    have h3753 := Rep.mono _ e3720 h3675
                    have h3754 := Rep.mono _ e3720 h3676
                    have h3755 := Rep.mono _ e3720 h3677
                    have h3756 := Rep.mono _ e3720 h3678
                    have h3757 := Rep.mono _ e3720 h3679
                    have h3758 := Rep.mono _ e3720 h3680
                    have h3759 := Rep.mono _ e3720 h3681
                    have h3760 := Rep.mono _ e3720 h3682
                    have h3761 := Rep.mono _ e3720 h3683
                    refine o_if ?_
                    refine o_or ?_
                    refine o_T ?_
                    refine o_op ?_
                    refine o_call ?_
                    refine o_cons ?_
                    refine o_var rfl ?_
                    refine o_cons ?_
                    obtain ⟨x3763, hx3764, hb2685⟩ := bindS hb2685
                    refine c_s w3721 (e_var (R := rS) (x := x2745) rfl rfl) hx3764 ?_
                    intro H3765 w3766
                    refine o_cons ?_
                    obtain ⟨x3768, hx3769, hb2685⟩ := bindS hb2685
                    refine c_b w3766 e_bl hx3769 ?_
                    intro H3770 w3771
                    refine o_nil ?_
                    obtain ⟨x3773, hx3774, hb2685⟩ := bindS hb2685
                    refine c_pq (j := 2) (i := ((p2566, other_2563), x3763, x3768, ())) w3771 rfl ⟨_, _, rfl, h3758, _, _, rfl, rfl, _, _, rfl, rfl, rfl⟩ hx3774 ?_
                    intro u3775 H3776 G3777 w3778 e3779 r3780
                    have h3781 := Rep.mono _ e3779 h3751
                    have h3782 := Rep.mono _ e3779 h3752
                    have h3783 := Rep.mono _ e3779 h3753
                    have h3784 := Rep.mono _ e3779 h3754
                    have h3785 := Rep.mono _ e3779 h3755
                    have h3786 := Rep.mono _ e3779 h3756
                    have h3787 := Rep.mono _ e3779 h3757
                    have h3788 := Rep.mono _ e3779 h3758
                    have h3789 := Rep.mono _ e3779 h3759
                    have h3790 := Rep.mono _ e3779 h3760
                    have h3791 := Rep.mono _ e3779 h3761
                    have w3778 : Wo G H [] G3777 H3776 [(p2617, cL (rP rS rI) s3718), (p2600, cL (rP rS rI) s3503.2), (p2566, cL (rP rS rI) x3773.2), (p2368, cL (rP rS rI) x3625.2), (p2370, cL rS s2772.2), (p2143, cM Sum.inr rI s2772.1), (p1997, cL rI x2823.2)] := w3778
                    obtain ⟨x3796, hx3797, hb2685⟩ := bindS hb2685
                    refine c_e w3778 (e_toD (K := K) (e_pair e_str (e_bmL (rbm_index flI) (e_var (R := (rL rI)) (x := x2007.1) rfl h3782) (ea_cons (e_cb rc_minL (ea_cons (e_var (R := (rL rI)) (x := x2007.1) rfl h3782) ea_nil)) ea_nil))) (dtP dtS dtI) (by decide)) (by first | (simp only [be1, bs1, ba1] at hx3797 ⊢; exact hx3797) | exact hx3797) ?_
                    intro v3800 H3798 G3801 w3799 e3802 h3803
                    have h3804 := Rep.mono _ e3802 h3781
                    have h3805 := Rep.mono _ e3802 h3782
                    have h3806 := Rep.mono _ e3802 h3783
                    have h3807 := Rep.mono _ e3802 h3784
                    have h3808 := Rep.mono _ e3802 h3785
                    have h3809 := Rep.mono _ e3802 h3786
                    have h3810 := Rep.mono _ e3802 h3787
                    have h3811 := Rep.mono _ e3802 h3788
                    have h3812 := Rep.mono _ e3802 h3789
                    have h3813 := Rep.mono _ e3802 h3790
                    have h3814 := Rep.mono _ e3802 h3791
                    have h3815 := Rep.mono _ e3802 r3780
                    obtain ⟨x3816, hx3817, hb2685⟩ := bindS hb2685
                    refine c_rr rr_neDD w3799 h3815 h3803 hx3817 ?_
                    intro u3818 H3819 G3820 w3821 e3822 r3823
                    have h3824 := Rep.mono _ e3822 h3804
                    have h3825 := Rep.mono _ e3822 h3805
                    have h3826 := Rep.mono _ e3822 h3806
                    have h3827 := Rep.mono _ e3822 h3807
                    have h3828 := Rep.mono _ e3822 h3808
                    have h3829 := Rep.mono _ e3822 h3809
                    have h3830 := Rep.mono _ e3822 h3810
                    have h3831 := Rep.mono _ e3822 h3811
                    have h3832 := Rep.mono _ e3822 h3812
                    have h3833 := Rep.mono _ e3822 h3813
                    have h3834 := Rep.mono _ e3822 h3814
                    have h3835 := Rep.mono _ e3822 h3815
                    cases r3823
                    refine ⟨_, rfl, ite_b ?_ ?_⟩
                    · intro hb3846
                      rw [hb3846] at hb2685
                      have hb2685 := bifT hb2685
                      refine o_tt ?_
                      obtain ⟨a3836, hx3837, hb2685⟩ := bindS hb2685
                      have hb2685 : some (Stp.rt a3836) = some q2687 := hb2685
                      cases hb2685
                      have hm2686 : some (Sum.inr a3836) = some t2678 := hm2686
                      cases hm2686
                      have h : a3836 = r := Option.some.inj h
                      subst h
                      exact x_ret w3821 e_bl hx3837 (fun v9 H9 G9 w9 e9 r9 => k v9 H9 G9 w9.upE r9)
                    · intro hb3846
                      rw [hb3846] at hb2685
                      have hb2685 := bifF hb2685
                      obtain ⟨b3839, hx3840, hb2685⟩ := bindS hb2685
                      refine c_t w3821 (et_not (et_B (e_call (ea_cons (e_cellA (j := 2) w3821 rfl (e_fld (S := rA) 1 (fun (o : Addr × m_TableAsker) => o.1) (e_var (R := rS_TableAsker K) (x := (p2566, other_2563)) rfl h3831) (T.cls 53 rfl) (T.noat 55 rfl) (by decide +kernel) (fun _ => rfl))) (ea_cons (e_var (R := (rL (rP rS rI))) (x := s3718) rfl (w3821.rlAt (i := 0) rfl)) ea_nil))))) (by first | (simp only [be1, bs1, ba1] at hx3840 ⊢; exact hx3840) | exact hx3840) ?_
                      intro H3841 w3842
                      refine ite_b ?_ ?_
                      · intro hb3845
                        rw [hb3845] at hb2685
                        have hb2685 := bifT hb2685
                        obtain ⟨a3843, hx3844, hb2685⟩ := bindS hb2685
                        have hb2685 : some (Stp.rt a3843) = some q2687 := hb2685
                        cases hb2685
                        have hm2686 : some (Sum.inr a3843) = some t2678 := hm2686
                        cases hm2686
                        have h : a3843 = r := Option.some.inj h
                        subst h
                        exact x_ret w3842 e_bl hx3844 (fun v9 H9 G9 w9 e9 r9 => k v9 H9 G9 w9.upE r9)
                      · intro hb3845
                        rw [hb3845] at hb2685
                        have hb2685 := bifF hb2685
                        refine x_next ?_
                        refine x_next ?_
                        have hb2685 : Stp.nx (x3625.2, (s2772.1, (s2772.2, (x3773.2, (s3503.2, (s3718, x2823.2)))))) = q2687 := Option.some.inj hb2685
                        subst hb2685
                        exact ⟨G3820, (x3625.2, (s2772.1, (s2772.2, (x3773.2, (s3503.2, (s3718, x2823.2)))))), (some v3505), (some (V.int x2693)), (some (V.str x2745)), (some v3400), w3842, ((((((((((((((((e2690.trans e2710).trans e2733).trans e2751).trans e2774).trans e2807).trans e2829).trans e2852).trans e3402).trans e3507).trans e3631).trans e3651).trans e3671).trans e3720).trans e3779).trans e3802).trans e3822), rfl, hm2686⟩
      · rintro σ' G3850 H3853 ⟨s2680, u2681, u2682, u2683, u2684, w3851, e3852, rfl, hm2686⟩
        have hm2686 := forL_end hm2686
        subst hm2686
        have h := elimL h
        have h3855 := Rep.mono _ e3852 h2665
        have h3856 := Rep.mono _ e3852 h2666
        have h3857 := Rep.mono _ e3852 h2667
        have h3858 := Rep.mono _ e3852 h2668
        have h3859 := Rep.mono _ e3852 h2669
        have h3860 := Rep.mono _ e3852 h2670
        have h3861 := Rep.mono _ e3852 h2671
        have h3862 := Rep.mono _ e3852 h2672
        have h3863 := Rep.mono _ e3852 h2673
        obtain ⟨a3865, hx3866, h⟩ := bindS h
        have h : a3865 = r := Option.some.inj h
        subst h
        exact x_ret w3851 (e_op (rr_isBN (neg := false)) (e_op (rr_eqO nsObj) (e_fld 0 (fun (o : Addr × m_TableAsker) => o.2.1) (e_var (R := rS_TableAsker K) (x := (p2368, s2362.2.1)) rfl h3861) (T.cls 53 rfl) (T.noat 54 rfl) (by decide +kernel) (fun _ => rfl)) (e_var (R := (r_Order K)) (x := order_2026) rfl h3857)) e_bl) (by first | (simp only [be1, bs1, ba1] at hx3866 ⊢; exact hx3866) | exact hx3866) (fun v9 H9 G9 w9 e9 r9 => k v9 H9 G9 w9.upE r9)
end
end My
namespace My
open PySem L2 Sim
section
variable {α β γ σ ρ : Type}
theorem bs {a : α} {f : α → Option β} : Option.bind (some a) f = f a := Eq.trans (Option.bind_some a f) (Eq.refl _)
def tab (n : Nat) (f : Nat → α) : List α := (List.range n).map f
theorem tab_len {n : Nat} {f : Nat → α} : (tab n f).length = n := by simp [tab]
theorem tab_get {n : Nat} {f : Nat → α} {i : Nat} (h : i < n) : (tab n f)[i]? = some (f i) := by
  simp [tab, List.getElem?_map, List.getElem?_range h]
theorem tab_mem {n : Nat} {f : Nat → α} {x : α} : x ∈ tab n f ↔ ∃ i, i < n ∧ f i = x := by simp [tab]
theorem tab_congr {n : Nat} {f g : Nat → α} (h : ∀ i < n, f i = g i) : tab n f = tab n g :=
  List.map_congr_left fun i hi => h i (List.mem_range.mp hi)
theorem ixN_nat {n i : Nat} (h : i < n) : ixN n (i : Int) = some i := by
  unfold ixN
  rw [if_pos (by omega), if_pos (by omega)]
  rfl
theorem atI_nat {xs : List α} {i : Nat} (h : i < xs.length) : atI xs (i : Int) = some xs[i] := by
  unfold atI
  rw [ixN_nat h]
  exact List.getElem?_eq_getElem h
theorem atI_tab {n : Nat} {f : Nat → α} {i : Nat} (h : i < n) : atI (tab n f) (i : Int) = some (f i) := by
  unfold atI
  rw [ixN_nat (by rw [tab_len]; exact h)]
  exact tab_get h
theorem rngM0 {n : Nat} (h : n ≤ 100000) : rngM 0 (n : Int) = some (tab n fun i => (i : Int)) := by
  unfold rngM
  rw [if_pos (by omega)]
  unfold rng tab
  simp
theorem rngM1 {i n : Nat} (h : n ≤ 100000) (h' : i ≤ 100000) : rngM ((i : Int)) (n : Int) = some (tab (n - i) fun k => ((i + k : Nat) : Int)) := by
  unfold rngM
  rw [if_pos (by omega)]
  unfold rng tab
  have : ((n : Int) - (i : Int)).toNat = n - i := by omega
  rw [this]
  simp
theorem mapO_map {f : β → Option γ} {a : α → β} {g : α → γ} : ∀ {xs : List α}, (∀ x ∈ xs, f (a x) = some (g x)) → mapO f (xs.map a) = some (xs.map g)
  | [], _ => rfl
  | x :: xs, h => by
    show (f (a x) >>= fun y => mapO f (xs.map a) >>= fun ys => some (y :: ys)) = _
    rw [h x (List.mem_cons_self ..), mapO_map (fun y hy => h y (List.mem_cons_of_mem _ hy))]
    rfl
theorem lcM_map {p' : β → Option Bool} {f : β → Option γ} {a : α → β} {p : α → Bool} {g : α → γ} : ∀ {xs : List α}, (∀ x ∈ xs, p' (a x) = some (p x)) → (∀ x ∈ xs, f (a x) = some (g x)) →
    lcM p' f (xs.map a) = some ((xs.filter p).map g)
  | [], _, _ => rfl
  | x :: xs, h, h' => by
    show (p' (a x) >>= fun b => bif b then f (a x) >>= fun y => lcM p' f (xs.map a) >>= fun ys => some (y :: ys) else lcM p' f (xs.map a)) = _
    rw [h x (List.mem_cons_self ..), lcM_map (fun y hy => h y (List.mem_cons_of_mem _ hy)) (fun y hy => h' y (List.mem_cons_of_mem _ hy)), h' x (List.mem_cons_self ..)]
    cases e : p x <;> simp [List.filter_cons, e]
theorem sz_t {n : Nat} (h : n < 100000) : sz n = true := by simp [sz, h]
theorem mapS_tab {n : Nat} {a : Nat → β} {f : β → Option γ} {g : Nat → γ} (hn : n < 100000) (h : ∀ i < n, f (a i) = some (g i)) : mapS f (tab n a) = some (tab n g) := by
  unfold mapS
  rw [tab_len, sz_t hn]
  exact mapO_map fun x hx => h x (List.mem_range.mp hx)
theorem mapS_map {xs : List α} {f : α → Option β} {g : α → β} (hn : xs.length < 100000) (h : ∀ x ∈ xs, f x = some (g x)) : mapS f xs = some (xs.map g) := by
  unfold mapS
  rw [sz_t hn]
  have := mapO_map (f := f) (a := id) (g := g) (xs := xs) h
  rwa [List.map_id] at this
theorem lcS_tab {n : Nat} {a : Nat → β} {p' : β → Option Bool} {f : β → Option γ} {p : Nat → Bool} {g : Nat → γ} (hn : n < 100000) (h : ∀ i < n, p' (a i) = some (p i)) (h' : ∀ i < n, f (a i) = some (g i)) :
    lcS p' f (tab n a) = some (((List.range n).filter p).map g) := by
  unfold lcS
  rw [tab_len, sz_t hn]
  exact lcM_map (fun x hx => h x (List.mem_range.mp hx)) (fun x hx => h' x (List.mem_range.mp hx))
theorem lcS_map {xs : List α} {a : α → β} {p' : β → Option Bool} {f : β → Option γ} {p : α → Bool} {g : α → γ} (hn : xs.length < 100000) (h : ∀ x ∈ xs, p' (a x) = some (p x)) (h' : ∀ x ∈ xs, f (a x) = some (g x)) :
    lcS p' f (xs.map a) = some ((xs.filter p).map g) := by
  unfold lcS
  rw [List.length_map, sz_t hn]
  exact lcM_map h h'
theorem forL_nx {body : α → Unit → Option (Stp Unit ρ)} : ∀ {xs : List α}, (∀ x ∈ xs, body x () = some (.nx ())) → forL body xs () = some (.inl ())
  | [], _ => rfl
  | x :: xs, h => by
    show (body x () >>= stpK (forL body xs)) = _
    rw [h x (List.mem_cons_self ..)]
    exact forL_nx fun y hy => h y (List.mem_cons_of_mem _ hy)
theorem forL_nxT {body : α → Unit → Option (Stp Unit ρ)} {n : Nat} {a : Nat → α} (h : ∀ i < n, body (a i) () = some (.nx ())) : forL body (tab n a) () = some (.inl ()) :=
  forL_nx fun x hx => by obtain ⟨i, hi, rfl⟩ := tab_mem.mp hx; exact h i hi
theorem forL_find {body : β → Unit → Option (Stp Unit ρ)} {a : α → β} {p : α → Bool} {g : α → ρ} : ∀ {xs : List α}, (∀ x ∈ xs, body (a x) () = some (bif p x then .rt (g x) else .nx ())) →
    forL body (xs.map a) () = some (match xs.find? p with | some x => .inr (g x) | none => .inl ())
  | [], _ => rfl
  | x :: xs, h => by
    show (body (a x) () >>= stpK (forL body (xs.map a))) = _
    rw [h x (List.mem_cons_self ..)]
    cases e : p x
    · rw [List.find?_cons, e]
      exact forL_find fun y hy => h y (List.mem_cons_of_mem _ hy)
    · rw [List.find?_cons, e]; rfl
theorem forS_un {body : α → Unit → Option Unit} : ∀ {xs : List α}, (∀ x ∈ xs, body x () = some ()) → forS body xs () = some ()
  | [], _ => rfl
  | x :: xs, h => by
    show (body x () >>= forS body xs) = _
    rw [h x (List.mem_cons_self ..)]
    exact forS_un fun y hy => h y (List.mem_cons_of_mem _ hy)
/-- a loop that keeps something -/
theorem forS_keep {body : α → σ → Option σ} {I : Nat → σ → Prop} : ∀ {xs : List α} {k : Nat} {s : σ}, I k s → (∀ x ∈ xs, ∀ j s, k ≤ j → j < k + xs.length → I j s → ∃ s', body x s = some s' ∧ I (j + 1) s') →
    ∃ s', forS body xs s = some s' ∧ I (k + xs.length) s'
  | [], k, s, h, _ => ⟨s, rfl, h⟩
  | x :: xs, k, s, h, hs => by
    obtain ⟨s1, e1, h1⟩ := hs x (List.mem_cons_self ..) k s (Nat.le_refl _) (by simp) h
    obtain ⟨s2, e2, h2⟩ := forS_keep (xs := xs) (k := k + 1) h1 fun y hy j t hj hj' => hs y (List.mem_cons_of_mem _ hy) j t (by omega) (by simp; omega)
    refine ⟨s2, ?_, ?_⟩
    · show (body x s >>= forS body xs) = _
      rw [e1]; exact e2
    · have : k + (x :: xs).length = k + 1 + xs.length := by simp; omega
      rw [this]; exact h2
/-- a loop whose k-th state is told -/
theorem forS_tab {body : α → σ → Option σ} {a : Nat → α} {S : Nat → σ} {n : Nat} (h : ∀ i < n, body (a i) (S i) = some (S (i + 1))) : forS body (tab n a) (S 0) = some (S n) := by
  suffices h' : ∀ m k, k + m = n → forS body ((List.range' k m).map a) (S k) = some (S n) by
    have := h' n 0 (by omega)
    rw [← List.range_eq_range'] at this
    exact this
  intro m
  induction m with
  | zero => intro k hk; have : k = n := by omega
            subst this; rfl
  | succ m ih =>
    intro k hk
    show (body (a k) (S k) >>= forS body ((List.range' (k + 1) m).map a)) = _
    rw [h k (by omega)]
    exact ih (k + 1) (by omega)
end

abbrev tab2 (n : Nat) (R : Nat → Nat → α) : List (List α) := tab n fun a => tab n fun b => R a b
theorem atI2 {n : Nat} {R : Nat → Nat → α} {a b : Nat} (ha : a < n) (hb : b < n) : (atI (tab2 n R) (a : Int) >>= fun t => atI t (b : Int)) = some (R a b) := by
  rw [atI_tab ha]
  exact atI_tab hb
theorem tab2_congr {n : Nat} {R S : Nat → Nat → α} (h : ∀ a < n, ∀ b < n, R a b = S a b) : tab2 n R = tab2 n S :=
  tab_congr fun a ha => tab_congr fun b hb => h a ha b hb
theorem mul_small {a b : Nat} (ha : a ≤ 12) : mulM (a : Int) (b : Int) = some (((a * b : Nat)) : Int) := by
  unfold mulM
  rw [if_pos (Or.inl (by omega))]
  simp
/-- the pairs lie below n -/
def InR (n : Nat) (ps : List (Int × Int)) : Prop := ∀ p ∈ ps, ∃ a b : Nat, a < n ∧ b < n ∧ p = ((a : Int), (b : Int))
theorem InR.tail {n : Nat} {p} {ps : List (Int × Int)} (h : InR n (p :: ps)) : InR n ps := fun q hq => h q (List.mem_cons_of_mem _ hq)
theorem ix_lt {n a b : Nat} (ha : a < n) (hb : b < n) : a * n + b < n * n := by
  have : (a + 1) * n ≤ n * n := Nat.mul_le_mul_right n ha
  rw [Nat.succ_mul] at this
  omega
theorem ix_inj {n a b c d : Nat} (hb : b < n) (hd : d < n) (h : a * n + b = c * n + d) : a = c ∧ b = d := by
  have e : (a * n + b) / n = (c * n + d) / n := by rw [h]
  have e2 : (a * n + b) % n = (c * n + d) % n := by rw [h]
  rw [Nat.mul_comm a n, Nat.mul_comm c n, Nat.mul_add_div (by omega), Nat.mul_add_div (by omega), Nat.div_eq_of_lt hb, Nat.div_eq_of_lt hd] at e
  rw [Nat.mul_comm a n, Nat.mul_comm c n, Nat.mul_add_mod, Nat.mul_add_mod, Nat.mod_eq_of_lt hb, Nat.mod_eq_of_lt hd] at e2
  exact ⟨by omega, e2⟩
/-! pop -/
section
open PyProof.Rows
theorem ixN_popAt {n k : Nat} (h : k < n) : seqIndex? (k : Int) n = some k := by
  unfold seqIndex?
  have : ¬ ((k : Int) < 0) := by omega
  simp only [this, if_false]
  have h2 : (decide (0 ≤ (k : Int)) && decide ((k : Int) < (n : Int))) = true := by simp; exact h
  rw [if_pos h2]
  rfl
theorem perm_erase {α : Type} : ∀ {xs : List α} {k : Nat} (h : k < xs.length), xs.Perm (xs[k] :: xs.eraseIdx k)
  | x :: xs, 0, _ => .refl _
  | x :: xs, k + 1, h => by
    have h : k < xs.length := by simpa using h
    exact ((perm_erase h).cons x).trans (.swap ..)
/-- a list drawn out in another order -/
theorem popAt_eq {α : Type} {xs : List α} {k : Nat} (h : k < xs.length) (h2 : xs.length < 100000) : popAtM xs (k : Int) = some (xs[k], xs.eraseIdx k) := by
  unfold popAtM
  rw [if_pos (by omega), ixN_popAt h]
  simp only [Option.bind_eq_bind, bs]
  rw [List.getElem?_eq_getElem h]
  rfl
end
end My

namespace My
open PySem L2 Sim
theorem cl_b1 {n : Nat} (hn : n ≤ 12) : ∀ {ps : List (Int × Int)} {s : List Bool} {D : Nat → Nat → Bool}, InR n ps → s.length = n * n → (∀ a < n, ∀ b < n, s[a * n + b]? = some (D a b)) →
    ∃ s', forS (m_closure_b1 (n : Int)) ps s = some s' ∧ s'.length = n * n ∧ ∀ a < n, ∀ b < n, s'[a * n + b]? = some (D a b || decide (((a : Int), (b : Int)) ∈ ps))
  | [], s, D, _, hl, hs => ⟨s, rfl, hl, fun a ha b hb => by simp [hs a ha b hb]⟩
  | p :: ps, s, D, hp, hl, hs => by
    obtain ⟨c, d, hc, hd, rfl⟩ := hp _ (List.mem_cons_self ..)
    have e1 : m_closure_b1 (n : Int) ((c : Int), (d : Int)) s = some (s.set (c * n + d) true) := by
      simp only [m_closure_b1, mul_small (show c ≤ 12 by omega), Option.bind_eq_bind, Option.bind_some]
      rw [show ((c * n : Nat) : Int) + (d : Int) = ((c * n + d : Nat) : Int) by simp]
      unfold setM
      rw [ixN_nat (by rw [hl]; exact ix_lt hc hd)]
      rfl
    obtain ⟨s', e2, h1, h2⟩ := cl_b1 hn (ps := ps) (s := s.set (c * n + d) true) (D := fun a b => D a b || decide (((a : Int), (b : Int)) = ((c : Int), (d : Int)))) hp.tail (by rw [List.length_set]; exact hl) (by
      intro a ha b hb
      rw [List.getElem?_set]
      by_cases e : c * n + d = a * n + b
      · obtain ⟨h1, h2⟩ := ix_inj hd hb e
        subst h1; subst h2
        simp [hl, ix_lt hc hd]
      · rw [if_neg e, hs a ha b hb]
        have : ¬ (((a : Int), (b : Int)) = ((c : Int), (d : Int))) := by
          intro q
          rw [Prod.mk.injEq] at q
          apply e
          rw [show a = c by omega, show b = d by omega]
        simp [this])
    refine ⟨s', ?_, h1, fun a ha b hb => ?_⟩
    · show (m_closure_b1 (n : Int) ((c : Int), (d : Int)) s >>= forS (m_closure_b1 (n : Int)) ps) = _
      rw [e1]; exact e2
    · rw [h2 a ha b hb]
      simp [List.mem_cons, Bool.or_assoc]
def wst (m : Nat) (R : Nat → Nat → Bool) (a b : Nat) : Bool := R a b || (R a m && R m b)
def wsh (R : Nat → Nat → Bool) : Nat → Nat → Nat → Bool
  | 0 => R
  | k + 1 => wst k (wsh R k)
theorem cl_b2 {n m : Nat} {R : Nat → Nat → Bool} (hn : n ≤ 12) (hm : m < n) : m_closure_b2 (n : Int) (m : Int) (tab2 n R) = some (tab2 n (wst m R)) := by
  unfold m_closure_b2
  rw [rngM0 (by omega)]
  simp only [Option.bind_eq_bind, Option.bind_some]
  rw [mapS_tab (g := fun a => tab n fun b => wst m R a b) (by omega)]
  · rfl
  · intro a ha
    rw [mapS_tab (g := fun b => wst m R a b) (by omega)]
    intro b hb
    have h1 := atI2 (R := R) ha hb
    have h2 := atI2 (R := R) ha hm
    have h3 := atI2 (R := R) hm hb
    simp only [Option.bind_eq_bind] at h1 h2 h3
    rw [h1, h2, h3]
    unfold orO andO wst
    cases R a b <;> cases R a m <;> rfl
theorem m_closure_eq {n : Nat} {ps : List (Int × Int)} (hn : n ≤ 12) (hp : InR n ps) :
    m_closure (n : Int) ps = some (tab2 n (wsh (fun a b => a == b || decide (((a : Int), (b : Int)) ∈ ps)) n)) := by
  unfold m_closure
  rw [mul_small hn]
  simp only [Option.bind_eq_bind, Option.bind_some]
  have hnn : n * n ≤ 144 := Nat.mul_le_mul hn hn
  rw [rngM0 (by omega)]
  simp only [Option.bind_some]
  rw [mapS_tab (f := fun _ => some false) (g := fun _ => false) (by omega) (fun _ _ => rfl)]
  simp only [Option.bind_some]
  obtain ⟨s, e, h1, h2⟩ := cl_b1 hn (s := tab (n * n) fun _ => false) (D := fun _ _ => false) hp tab_len (fun a ha b hb => tab_get (ix_lt ha hb))
  rw [e]
  simp only [Option.bind_some]
  rw [rngM0 (by omega)]
  simp only [Option.bind_some]
  rw [mapS_tab (g := fun a => tab n fun b => (a == b || decide (((a : Int), (b : Int)) ∈ ps))) (by omega)]
  · simp only [Option.bind_some]
    have hf := forS_tab (body := m_closure_b2 (n : Int)) (a := fun i : Nat => (i : Int)) (n := n) (S := fun k => tab2 n (wsh (fun a b => a == b || decide (((a : Int), (b : Int)) ∈ ps)) k)) (fun i hi => cl_b2 hn hi)
    exact congrArg (fun z => z.bind some) hf
  · intro a ha
    rw [mapS_tab (g := fun b => (a == b || decide (((a : Int), (b : Int)) ∈ ps))) (by omega)]
    intro b hb
    rw [mul_small (by omega)]
    simp only [Option.bind_some]
    rw [show ((a * n : Nat) : Int) + (b : Int) = ((a * n + b : Nat) : Int) by simp]
    have : atI s ((a * n + b : Nat) : Int) = some (decide (((a : Int), (b : Int)) ∈ ps)) := by
      unfold atI
      rw [ixN_nat (by rw [h1]; exact ix_lt ha hb)]
      have := h2 a ha b hb
      simpa using this
    rw [this]
    unfold orO
    by_cases e : a = b
    · subst e; simp
    · have : ((a : Int) == (b : Int)) = false := by simp; omega
      rw [this]; simp [e]

/-! ### Warshall -/
theorem wsh_mono {R : Nat → Nat → Bool} {a b : Nat} : ∀ {k}, R a b = true → wsh R k a b = true
  | 0, h => h
  | k + 1, h => by
    show wst k (wsh R k) a b = true
    unfold wst
    rw [wsh_mono (k := k) h]
    rfl
theorem wsh_inv {R : Nat → Nat → Bool} : ∀ {k m a b}, m < k → wsh R k a m = true → wsh R k m b = true → wsh R k a b = true
  | k + 1, m, a, b, hm, h1, h2 => by
    have h1 : (wsh R k a m || (wsh R k a k && wsh R k k m)) = true := h1
    have h2 : (wsh R k m b || (wsh R k m k && wsh R k k b)) = true := h2
    show (wsh R k a b || (wsh R k a k && wsh R k k b)) = true
    simp only [Bool.or_eq_true, Bool.and_eq_true] at h1 h2 ⊢
    by_cases e : m = k
    · subst e
      rcases h1 with h1 | h1 <;> rcases h2 with h2 | h2 <;> simp_all
    · have hk : m < k := by omega
      have I := fun {a b : Nat} => wsh_inv (R := R) (k := k) (m := m) (a := a) (b := b) hk
      rcases h1 with h1 | ⟨h1, h1'⟩
      · rcases h2 with h2 | ⟨h2, h2'⟩
        · exact Or.inl (I h1 h2)
        · exact Or.inr ⟨I h1 h2, h2'⟩
      · rcases h2 with h2 | ⟨h2, h2'⟩
        · exact Or.inr ⟨h1, I h1' h2⟩
        · exact Or.inr ⟨h1, h2'⟩
theorem wsh_sound {R : Nat → Nat → Bool} {S : Nat → Nat → Prop} {n : Nat} (ht : ∀ a b c, a < n → b < n → c < n → S a b → S b c → S a c) (hR : ∀ a b, a < n → b < n → R a b = true → S a b) :
    ∀ {k a b}, k ≤ n → a < n → b < n → wsh R k a b = true → S a b
  | 0, a, b, _, ha, hb, h => hR a b ha hb h
  | k + 1, a, b, hk, ha, hb, h => by
    have h : (wsh R k a b || (wsh R k a k && wsh R k k b)) = true := h
    simp only [Bool.or_eq_true, Bool.and_eq_true] at h
    have I := fun {a b : Nat} => wsh_sound (S := S) ht hR (k := k) (a := a) (b := b) (by omega)
    rcases h with h | ⟨h, h'⟩
    · exact I ha hb h
    · exact ht a k b ha (by omega) hb (I ha (by omega) h) (I (by omega) hb h')

/-- an order on the places below n, told by pairs -/
structure Ord (n : Nat) (le : Nat → Nat → Bool) : Prop where
  rf : ∀ a, a < n → le a a = true
  an : ∀ a b, a < n → b < n → le a b = true → le b a = true → a = b
  tr : ∀ a b c, a < n → b < n → c < n → le a b = true → le b c = true → le a c = true
/-- the pairs tell the order -/
structure Gens (n : Nat) (le : Nat → Nat → Bool) (ps : List (Int × Int)) : Prop where
  rg : InR n ps
  sd : ∀ a b, a < n → b < n → ((a : Int), (b : Int)) ∈ ps → le a b = true
  gn : ∀ S : Nat → Nat → Prop, (∀ a, a < n → S a a) → (∀ a b c, a < n → b < n → c < n → S a b → S b c → S a c) → (∀ a b, a < n → b < n → ((a : Int), (b : Int)) ∈ ps → S a b) → ∀ a b, a < n → b < n → le a b = true → S a b
theorem closure_le {n : Nat} {le : Nat → Nat → Bool} {ps : List (Int × Int)} (hn : n ≤ 12) (o : Ord n le) (g : Gens n le ps) : m_closure (n : Int) ps = some (tab2 n le) := by
  rw [m_closure_eq hn g.rg]
  congr 1
  refine tab2_congr fun a ha b hb => ?_
  cases e : le a b with
  | true =>
    refine g.gn (fun a b => wsh (fun a b => a == b || decide (((a : Int), (b : Int)) ∈ ps)) n a b = true) (fun a ha => wsh_mono (by simp)) (fun a b c ha hb hc h1 h2 => wsh_inv hb h1 h2) (fun a b ha hb h => wsh_mono (by simp [h])) a b ha hb e
  | false =>
    cases e2 : wsh (fun a b => a == b || decide (((a : Int), (b : Int)) ∈ ps)) n a b with
    | false => rfl
    | true =>
      have := wsh_sound (S := fun a b => le a b = true) (n := n) o.tr (fun a b ha hb h => by
        simp only [Bool.or_eq_true, decide_eq_true_eq, beq_iff_eq] at h
        rcases h with h | h
        · subst h; exact o.rf a ha
        · exact g.sd a b ha hb h) (Nat.le_refl n) ha hb e2
      rw [e] at this
      cases this
/-- every two have a least above -/
structure Lub (n : Nat) (le : Nat → Nat → Bool) (j : Nat → Nat → Nat) : Prop where
  lt : ∀ a b, a < n → b < n → j a b < n
  l : ∀ a b, a < n → b < n → le a (j a b) = true
  r : ∀ a b, a < n → b < n → le b (j a b) = true
  le : ∀ a b c, a < n → b < n → c < n → le a c = true → le b c = true → le (j a b) c = true
theorem least_above_eq {n : Nat} {le : Nat → Nat → Bool} {j : Nat → Nat → Nat} (hn : n ≤ 12) (o : Ord n le) (L : Lub n le j) {a b : Nat} (ha : a < n) (hb : b < n) :
    m_least_above (tab2 n le) (a : Int) (b : Int) = some (some ((j a b : Nat) : Int)) := by
  unfold m_least_above
  rw [tab_len, rngM0 (by omega)]
  simp only [Option.bind_eq_bind, Option.bind_some]
  rw [lcS_tab (p := fun c => le a c && le b c) (g := fun c => (c : Int)) (by omega) ?h1 (fun _ _ => rfl)]
  case h1 =>
    intro c hc
    have h1 := atI2 (R := le) ha hc
    have h2 := atI2 (R := le) hb hc
    simp only [Option.bind_eq_bind] at h1 h2
    rw [h1, h2]
    unfold andO
    cases le a c <;> rfl
  simp only [Option.bind_some]
  have hU : ∀ c, c ∈ (List.range n).filter (fun c => le a c && le b c) ↔ c < n ∧ le a c = true ∧ le b c = true := fun c => by simp [List.mem_filter]
  generalize hUe : (List.range n).filter (fun c => le a c && le b c) = U at hU
  have hl : U.length ≤ n := by rw [← hUe]; exact Nat.le_trans (List.length_filter_le _ _) (by simp)
  rw [forL_find (p := fun e => (U.filter (fun x => le e x)).length == U.length) (g := fun e => some ((e : Nat) : Int))]
  · have hj : j a b ∈ U := (hU _).mpr ⟨L.lt a b ha hb, L.l a b ha hb, L.r a b ha hb⟩
    have key : ∀ e ∈ U, ((U.filter (fun x => le e x)).length == U.length) = true ↔ e = j a b := by
      intro e he
      rw [beq_iff_eq, List.length_filter_eq_length_iff]
      obtain ⟨h1, h2, h3⟩ := (hU e).mp he
      constructor
      · intro h
        exact o.an e (j a b) h1 (L.lt a b ha hb) (h _ hj) (L.le a b e ha hb h1 h2 h3)
      · rintro rfl x hx
        obtain ⟨k1, k2, k3⟩ := (hU x).mp hx
        exact L.le a b x ha hb k1 k2 k3
    cases hf : U.find? (fun e => (U.filter (fun x => le e x)).length == U.length) with
    | none =>
      have := List.find?_eq_none.mp hf _ hj
      exact absurd ((key _ hj).mpr rfl) this
    | some e =>
      have h1 := List.mem_of_find?_eq_some hf
      have h2 := List.find?_some hf
      have := (key e h1).mp h2
      subst this
      rfl
  · intro e he
    obtain ⟨h1, _, _⟩ := (hU e).mp he
    unfold m_least_above_b1
    rw [lcS_map (p := fun x => le e x) (g := fun c => (c : Int)) (by omega) ?h2 (fun _ _ => rfl)]
    case h2 =>
      intro x hx
      obtain ⟨k1, _, _⟩ := (hU x).mp hx
      exact atI2 h1 k1
    simp only [Option.bind_eq_bind, Option.bind_some, List.length_map]
    have : (((U.filter fun x => le e x).length : Int) == (U.length : Int)) = ((U.filter fun x => le e x).length == U.length) := by
      cases h : ((U.filter fun x => le e x).length == U.length) with
      | true => rw [beq_iff_eq] at h; rw [h]; simp
      | false => rw [beq_eq_false_iff_ne] at h ⊢; omega
    rw [this]
    cases ((U.filter fun x => le e x).length == U.length) <;> rfl
theorem bounds_eq {n : Nat} {le : Nat → Nat → Bool} {j : Nat → Nat → Nat} (hn : n ≤ 12) (o : Ord n le) (L : Lub n le j) : m_bounds_table (tab2 n le) = some (tab2 n fun a b => some ((j a b : Nat) : Int)) := by
  unfold m_bounds_table
  rw [tab_len]
  simp only [Option.bind_eq_bind, Option.bind_some]
  rw [rngM0 (by omega)]
  simp only [Option.bind_some]
  rw [mapS_tab (g := fun a => tab n fun b => some ((j a b : Nat) : Int)) (by omega)]
  · rfl
  · intro a ha
    rw [mapS_tab (g := fun b => some ((j a b : Nat) : Int)) (by omega)]
    intro b hb
    exact least_above_eq hn o L ha hb
theorem first_ring_eq {n : Nat} {le : Nat → Nat → Bool} (hn : n ≤ 12) (o : Ord n le) : m_first_ring (tab2 n le) = some none := by
  unfold m_first_ring
  rw [tab_len]
  simp only [Option.bind_eq_bind, Option.bind_some]
  rw [rngM0 (by omega)]
  simp only [Option.bind_some]
  rw [forL_nxT]
  · rfl
  · intro a ha
    unfold m_first_ring_b1
    rw [tab_len]
    simp only [Option.bind_eq_bind, Option.bind_some]
    rw [show (a : Int) + 1 = ((a + 1 : Nat) : Int) by simp, rngM1 (by omega) (by omega)]
    simp only [Option.bind_some]
    rw [forL_nxT]
    · rfl
    · intro i hi
      have hb : a + 1 + i < n := by omega
      unfold m_first_ring_b2
      have h1 := atI2 (R := le) ha hb
      have h2 := atI2 (R := le) hb ha
      rw [h1, h2]
      unfold andO
      cases e1 : le a (a + 1 + i) with
      | false => rfl
      | true =>
        cases e2 : le (a + 1 + i) a with
        | false => rfl
        | true => exact absurd (o.an _ _ ha hb e1 e2) (by omega)
theorem first_lack_eq {n : Nat} {j : Nat → Nat → Int} (hn : n ≤ 12) : m_first_lack (tab2 n fun a b => some (j a b)) = some none := by
  unfold m_first_lack
  rw [tab_len]
  simp only [Option.bind_eq_bind, Option.bind_some]
  rw [rngM0 (by omega)]
  simp only [Option.bind_some]
  rw [forL_nxT]
  · rfl
  · intro a ha
    unfold m_first_lack_b1
    rw [tab_len]
    simp only [Option.bind_eq_bind, Option.bind_some]
    rw [show (a : Int) + 1 = ((a + 1 : Nat) : Int) by simp, rngM1 (by omega) (by omega)]
    simp only [Option.bind_some]
    rw [forL_nxT]
    · rfl
    · intro i hi
      have hb : a + 1 + i < n := by omega
      unfold m_first_lack_b2
      have h1 := atI2 (R := fun a b => some (j a b)) ha hb
      rw [h1]
      rfl
theorem turned_eq {n : Nat} {le : Nat → Nat → Bool} (hn : n ≤ 12) : m_turned (tab2 n le) = some (tab2 n fun a b => le b a) := by
  unfold m_turned
  rw [tab_len, rngM0 (by omega)]
  simp only [Option.bind_eq_bind, Option.bind_some]
  rw [mapS_tab (g := fun a => tab n fun b => le b a) (by omega)]
  · rfl
  · intro a ha
    rw [mapS_tab (g := fun b => le b a) (by omega)]
    intro b hb
    exact atI2 hb ha
theorem Ord.op {n : Nat} {le : Nat → Nat → Bool} (o : Ord n le) : Ord n (fun a b => le b a) :=
  ⟨o.rf, fun a b ha hb h1 h2 => o.an a b ha hb h2 h1, fun a b c ha hb hc h1 h2 => o.tr c b a hc hb ha h2 h1⟩
theorem maxL_some : ∀ {xs : List Int}, xs ≠ [] → ∃ m, maxL xs = some m
  | [], h => absurd rfl h
  | [x], _ => ⟨x, rfl⟩
  | x :: y :: ys, _ => by
    obtain ⟨m, h⟩ := maxL_some (xs := y :: ys) (by simp)
    exact ⟨_, by unfold maxL; rw [h]; rfl⟩
theorem longest_some {n : Nat} {le : Nat → Nat → Bool} (hn : n ≤ 12) (h0 : 0 < n) : ∃ m, m_longest (tab2 n le) = some m := by
  unfold m_longest
  have hl : (tab2 n le).length = n := tab_len
  rw [mapS_map (g := fun _ => (0 : Int)) (by omega) (fun _ _ => rfl)]
  simp only [Option.bind_eq_bind, Option.bind_some]
  obtain ⟨s, e, hs⟩ := forS_keep (body := m_longest_b1 (tab2 n le)) (xs := tab2 n le) (k := 0) (I := fun _ (s : List Int) => s.length = n) (s := List.map (fun _ => (0 : Int)) (tab2 n le)) (by simp [tab_len]) (by
    intro x _ k s _ _ hs
    unfold m_longest_b1
    simp only [tab_len, Option.bind_eq_bind, Option.bind_some]
    rw [rngM0 (by omega)]
    simp only [Option.bind_some]
    obtain ⟨s2, e2, hs2⟩ := forS_keep (body := m_longest_b2 (tab2 n le)) (xs := tab n fun i => (i : Int)) (k := 0) (I := fun _ (s : List Int) => s.length = n) (s := s) hs (by
      intro x hx k s _ _ hs
      obtain ⟨a, ha, rfl⟩ := tab_mem.mp hx
      unfold m_longest_b2
      simp only [tab_len, Option.bind_eq_bind, Option.bind_some]
      rw [rngM0 (by omega)]
      simp only [Option.bind_some]
      obtain ⟨s3, e3, hs3⟩ := forS_keep (body := m_longest_b3 (a : Int) (tab2 n le)) (xs := tab n fun i => (i : Int)) (k := 0) (I := fun _ (s : List Int) => s.length = n) (s := s) hs (by
        intro x hx k s _ _ hs
        obtain ⟨b, hb, rfl⟩ := tab_mem.mp hx
        unfold m_longest_b3
        have h1 := atI2 (R := le) ha hb
        rw [h1]
        unfold andO
        have g1 := atI_nat (xs := s) (i := b) (by omega)
        have g2 := atI_nat (xs := s) (i := a) (by omega)
        cases e : ((a : Int) == (b : Int)) with
        | true => exact ⟨s, by simp, hs⟩
        | false =>
          cases e2 : le a b with
          | false => exact ⟨s, by simp, hs⟩
          | true =>
            simp only [Bool.not_false, Option.bind_eq_bind, Option.bind_some, cond_true, g1, g2]
            unfold setM
            rw [ixN_nat (by omega)]
            exact ⟨_, rfl, by simp [hs]⟩)
      rw [e3]
      exact ⟨s3, rfl, hs3⟩)
    rw [e2]
    exact ⟨s2, rfl, hs2⟩)
  rw [e]
  obtain ⟨m, hm⟩ := maxL_some (xs := s) (by intro q; subst q; simp at hs; omega)
  exact ⟨m, by simp only [Option.bind_some]; rw [hm]; rfl⟩
/-- a lattice of n places -/
structure Lat (n : Nat) (le : Nat → Nat → Bool) (j m : Nat → Nat → Nat) : Prop where
  lo : 1 ≤ n
  hi : n ≤ 12
  o : Ord n le
  j : Lub n le j
  m : Lub n (fun a b => le b a) m
structure IsOrd (n : Nat) (le : Nat → Nat → Bool) (j m : Nat → Nat → Nat) (o : m_Order) : Prop where
  above : o.f_above = tab2 n le
  joins : o.f_joins = tab2 n fun a b => some ((j a b : Nat) : Int)
  meets : o.f_meets = tab2 n fun a b => some ((m a b : Nat) : Int)
  members : o.f_members = tab n fun i => (i : Int)
  height : m_longest (tab2 n le) = some o.f_height
theorem Order_init_eq {n : Nat} {le : Nat → Nat → Bool} {j m : Nat → Nat → Nat} {ps : List (Int × Int)} (L : Lat n le j m) (g : Gens n le ps) : ∃ o, m_Order___init__ (n : Int) ps = some o ∧ IsOrd n le j m o := by
  have hn := L.hi
  have h0 := L.lo
  unfold m_Order___init__
  have e1 : ((decide ((n : Int) < 1)) || (decide ((12 : Int) < (n : Int)))) = false := by simp; omega
  rw [e1]
  simp only [Option.bind_eq_bind, bs, cond_false]
  rw [forS_un (body := m_Order___init___b1 (n : Int)) (by
    intro p hp
    obtain ⟨a, b, ha, hb, rfl⟩ := g.rg p hp
    unfold m_Order___init___b1
    simp only [Option.bind_eq_bind, bs]
    rw [forS_un]
    · rfl
    · intro x hx
      unfold m_Order___init___b2
      have : (decide (x < 0) || decide ((n : Int) ≤ x)) = false := by
        rcases List.mem_cons.mp hx with rfl | hx
        · simp; omega
        · rcases List.mem_cons.mp hx with rfl | hx
          · simp; omega
          · cases hx
      rw [this]; rfl)]
  simp only [bs]
  rw [closure_le hn L.o g]
  simp only [bs]
  rw [first_ring_eq hn L.o]
  simp only [bs, Option.isSome_none, cond_false]
  rw [bounds_eq hn L.o L.j]
  simp only [bs]
  rw [first_lack_eq hn]
  simp only [bs, Option.isSome_none, cond_false]
  rw [turned_eq hn]
  simp only [bs]
  rw [bounds_eq hn L.o.op L.m]
  simp only [bs]
  rw [first_lack_eq hn]
  simp only [bs, Option.isSome_none, cond_false]
  rw [rngM0 (by omega)]
  simp only [bs]
  obtain ⟨h, hh⟩ := longest_some (le := le) hn h0
  rw [hh]
  simp only [bs]
  refine ⟨⟨tab2 n le, _, _, _, h⟩, congrArg some (Eq.refl _), ?_⟩
  exact ⟨Eq.refl _, Eq.refl _, Eq.refl _, Eq.refl _, hh⟩
end My

namespace My
open PySem L2 Sim PyProof.Rows
/-! ### the pot -/
theorem draw_eq (pot : List Int) {n : Nat} (h : 0 < n) : ∃ (v : Nat) (pot' : List Int), m__law_draw pot (n : Int) = some ((v : Int), pot') ∧ v < n := by
  unfold m__law_draw
  cases e : ((pot.length : Int) == 0) with
  | true => exact ⟨0, pot, rfl, h⟩
  | false =>
    have h0 : 0 < pot.length := by rw [beq_eq_false_iff_ne] at e; omega
    simp only [Option.bind_eq_bind, bs, cond_false]
    unfold popM
    rw [List.getElem?_eq_getElem (show pot.length - 1 < pot.length by omega)]
    simp only [Option.bind_eq_bind, bs]
    unfold modM
    rw [if_pos (by omega)]
    have h1 := Int.emod_nonneg (pot[pot.length - 1]) (show (n : Int) ≠ 0 by omega)
    have h2 := Int.emod_lt_of_pos (pot[pot.length - 1]) (show (0 : Int) < n by omega)
    refine ⟨(pot[pot.length - 1] % (n : Int)).toNat, pot.dropLast, ?_, by omega⟩
    simp only [bs]
    rw [show (((pot[pot.length - 1] % (n : Int)).toNat : Nat) : Int) = pot[pot.length - 1] % (n : Int) by omega]
theorem draw_lit (pot : List Int) (n : Nat) (h : 0 < n) {z : Int} (hz : z = (n : Int)) : ∃ (v : Nat) (pot' : List Int), m__law_draw pot z = some ((v : Int), pot') ∧ v < n := by
  subst hz; exact draw_eq pot h
theorem pot_b2 {k : Nat} {x : Int} {s : List Int × Int} (h1 : s.1.length ≤ k) (hk : k < 100000) : ∃ s', m__law_pot_b2 x s = some s' ∧ s'.1.length ≤ k + 1 := by
  obtain ⟨p, r⟩ := s
  unfold m__law_pot_b2
  simp only [Option.bind_eq_bind, bs]
  have hd : fdivM r 100 = some (r / 100) := by unfold fdivM; rw [if_pos (by decide)]
  have hm : modM r 100 = some (r % 100) := by unfold modM; rw [if_pos (by decide)]
  have ha : appM p (r % 100) = some (p ++ [r % 100]) := by unfold appM; rw [sz_t (show p.length < 100000 from Nat.lt_of_le_of_lt h1 hk)]; rfl
  rw [hd, hm]
  have h1 : p.length ≤ k := h1
  cases (decide ((0 : Int) < r) || x == 0) with
  | true =>
    simp only [cond_true, bs, ha]
    exact ⟨_, rfl, by simp; exact h1⟩
  | false =>
    simp only [cond_false, bs]
    exact ⟨_, rfl, by simp; omega⟩
theorem pot_b1 {ns : List Int} {i k : Nat} {s : List Int} (hi : i < ns.length) (hi' : i < 63) (h1 : s.length ≤ k) (hk : k + 60 < 100000) : ∃ s', m__law_pot_b1 ns (i : Int) s = some s' ∧ s'.length ≤ k + 60 := by
  unfold m__law_pot_b1
  rw [atI_nat hi]
  simp only [Option.bind_eq_bind, bs]
  generalize hr : (if ns[i] < 0 then -ns[i] else ns[i]) = r
  have hr0 : 0 ≤ r := by rw [← hr]; split <;> omega
  have hp : powM 10 18 = some 1000000000000000000 := by decide
  rw [hp]
  simp only [bs]
  have loop : ∀ (m : Nat) (r : Int), m ≤ 60 → ∃ s', ((rngM 0 (m : Int)).bind fun xs1671 => (forS m__law_pot_b2 xs1671 (s, r)).bind fun s1676 => some s1676.1) = some s' ∧ s'.length ≤ k + 60 := by
    intro m r hm
    rw [rngM0 (by omega)]
    simp only [bs]
    obtain ⟨t, e, ht⟩ := forS_keep (body := m__law_pot_b2) (xs := tab m fun i => (i : Int)) (k := k) (I := fun j (s : List Int × Int) => s.1.length ≤ j) (s := (s, r)) h1 (by
      intro x _ j s hj hj' hs
      rw [tab_len] at hj'
      exact pot_b2 hs (by omega))
    rw [e]
    rw [tab_len] at ht
    exact ⟨_, rfl, by omega⟩
  cases e : decide (r < 1000000000000000000) with
  | false =>
    simp only [cond_false, bs]
    obtain ⟨s', e2, h2⟩ := loop 60 r (by omega)
    exact ⟨s', e2, h2⟩
  | true =>
    have hr1 : r < 1000000000000000000 := of_decide_eq_true e
    simp only [cond_true, bs]
    have k1 : mulM 2 r = some (2 * r) := by unfold mulM; rw [if_pos (by omega)]
    have k2 : mulM 2 (i : Int) = some (2 * (i : Int)) := by unfold mulM; rw [if_pos (by omega)]
    have k3 : ∀ z, mulM z (48271 + 2 * (i : Int)) = some (z * (48271 + 2 * (i : Int))) := fun z => by unfold mulM; rw [if_pos (by omega)]
    rw [k1, k2]
    simp only [bs]
    rw [k3]
    simp only [bs]
    have k4 : ∀ z, modM z 2147483647 = some (z % 2147483647) := fun z => by unfold modM; rw [if_pos (by decide)]
    have k5 : ∀ z, modM z 2147483629 = some (z % 2147483629) := fun z => by unfold modM; rw [if_pos (by decide)]
    rw [k4]
    simp only [bs]
    generalize hq : ((2 * r + if decide (ns[i] < 0) = true then (1 : Int) else 0) * (48271 + 2 * (i : Int))) % 2147483647 = q
    have q0 : 0 ≤ q := by rw [← hq]; exact Int.emod_nonneg _ (by decide)
    have q1 : q < 2147483647 := by rw [← hq]; exact Int.emod_lt_of_pos _ (by decide)
    have k6 : mulM q q = some (q * q) := by unfold mulM; rw [if_pos (by omega)]
    have k7 : mulM q (i : Int) = some (q * (i : Int)) := by unfold mulM; rw [if_pos (by omega)]
    rw [k6, k7]
    simp only [bs]
    rw [k5]
    simp only [bs]
    obtain ⟨s', e2, h2⟩ := loop 4 ((q * q + q * (i : Int)) % 2147483629) (by omega)
    exact ⟨s', e2, h2⟩
theorem pot_eq (ns : List Int) : ∃ p, m__law_pot ns = some p := by
  unfold m__law_pot
  simp only [Option.bind_eq_bind, bs]
  have hn : ∃ n : Nat, (if (63 : Int) < (ns.length : Int) then (63 : Int) else (ns.length : Int)) = (n : Int) ∧ n ≤ 63 ∧ n ≤ ns.length := by
    split
    · exact ⟨63, rfl, by omega, by omega⟩
    · exact ⟨ns.length, rfl, by omega, by omega⟩
  obtain ⟨n, e, h1, h2⟩ := hn
  rw [e, rngM0 (by omega)]
  simp only [bs]
  obtain ⟨t, e, ht⟩ := forS_keep (body := m__law_pot_b1 ns) (xs := tab n fun i => (i : Int)) (k := 0) (I := fun j (s : List Int) => s.length ≤ j * 60) (s := []) (by simp) (by
    intro x hx j s hj hj' hs
    rw [tab_len] at hj'
    obtain ⟨i, hi, rfl⟩ := tab_mem.mp hx
    obtain ⟨s', e1, h1⟩ := pot_b1 (ns := ns) (i := i) (k := j * 60) (s := s) (by omega) (by omega) hs (by omega)
    exact ⟨s', e1, by omega⟩)
  rw [e]
  exact ⟨_, rfl⟩

end My

namespace My
theorem sel {α β γ : Type} {f : α → γ} {g : β → γ} {a : α} : Sum.elim f g (Sum.inl a) = f a := Eq.trans (Eq.refl _) (Eq.refl _)
theorem ctr {α : Type} {a b : α} : (bif true then a else b) = a := Eq.trans (Eq.refl _) (Eq.refl _)
theorem cfa {α : Type} {a b : α} : (bif false then a else b) = b := Eq.trans (Eq.refl _) (Eq.refl _)
theorem isn {α : Type} : (none : Option α).isSome = false := Eq.trans (Eq.refl _) (Eq.refl _)
theorem iss {α : Type} {a : α} : (some a).isSome = true := Eq.trans (Eq.refl _) (Eq.refl _)
end My

namespace My
open PySem L2 Sim PyProof.Rows
/-! ### names -/
theorem lsub {α : Type} [DecidableEq α] : ∀ {l l2 : List α}, l.Nodup → (∀ x ∈ l, x ∈ l2) → l.length ≤ l2.length
  | [], _, _, _ => Nat.zero_le _
  | x :: xs, l2, h, hs => by
    have hx := hs x (List.mem_cons_self ..)
    obtain ⟨h1, h2⟩ := List.nodup_cons.mp h
    have := lsub (l := xs) (l2 := l2.erase x) h2 fun y hy => by
      have hne : y ≠ x := fun e => h1 (e ▸ hy)
      exact (List.mem_erase_of_ne hne).mpr (hs y (List.mem_cons_of_mem _ hy))
    rw [List.length_erase_of_mem hx] at this
    have := List.length_pos_of_mem hx
    simp only [List.length_cons]
    omega
theorem addS_ok {x y : Str} (h : x.length + y.length < 100000) : addS x y = some (x ++ y) := by unfold addS; rw [decide_eq_true h]; rfl
theorem len1 (c : Nat) : (⟨#[c]⟩ : Str).length = 1 := rfl
theorem mulS_ok (c : Nat) {v : Nat} (h : v < 4) : ∃ z, mulS ⟨#[c]⟩ (v : Int) = some z ∧ z.length ≤ 3 := by
  have hc : decide ((v : Int) < 100 ∧ -100 < (v : Int) ∧ (⟨#[c]⟩ : Str).length < 1000) = true := by
    rw [len1]; exact decide_eq_true ⟨by omega, by omega, by omega⟩
  unfold mulS
  rw [hc]
  refine ⟨_, rfl, ?_⟩
  rcases v with _ | _ | _ | _ | v
  · show 0 ≤ 3
    omega
  · show 1 ≤ 3
    omega
  · show 2 ≤ 3
    omega
  · show 3 ≤ 3
    omega
  · omega
theorem sgl : ("abcdefghijklmnopqrstuvwxyzABCDEFGHIJKLMNOPQRSTUVWXYZ0123456789" : Str).cps.toList.length = 62 := by decide +kernel
theorem ixS_ok {v : Nat} (h : v < 62) : ∃ c, ixS ("abcdefghijklmnopqrstuvwxyzABCDEFGHIJKLMNOPQRSTUVWXYZ0123456789" : Str) (v : Int) = some ⟨#[c]⟩ := by
  unfold ixS
  have e : ("abcdefghijklmnopqrstuvwxyzABCDEFGHIJKLMNOPQRSTUVWXYZ0123456789" : Str).length = 62 := by
    rw [← sgl]; rfl
  rw [e, decide_eq_true (by omega), ctr, atI_nat (by rw [sgl]; exact h)]
  exact ⟨_, rfl⟩
theorem any_mem {s : List Str} {z : Str} : (s.any fun y => y == z) = decide (z ∈ s) := by
  by_cases h : z ∈ s
  · rw [decide_eq_true h, List.any_eq_true]
    exact ⟨z, h, by simp⟩
  · rw [decide_eq_false h, List.any_eq_false]
    intro y hy
    simp
    rintro rfl
    exact h hy
/-- short, or with an x at its end -/
def Pr (z : Str) : Prop := z.length ≤ 4 ∨ z.cps.toList.getLast? = some 120
/-- what is known of a name behind j tries -/
def Nm (ns : List Str) (j : Nat) (z : Str) : Prop := Pr z ∧ z.length ≤ 10 + j ∧ (z ∉ ns ∨ ∃ l : List Str, l.Nodup ∧ l.length = j ∧ ∀ y ∈ l, y ∈ ns ∧ y.length < z.length)
theorem names_b2 {s : List Str × List Int} {x : Int} {j : Nat} {z : Str} (hj : j < 1000) (h : Nm s.1 j z) : ∃ z', m__law_names_b2 s x z = some z' ∧ Nm s.1 (j + 1) z' := by
  unfold m__law_names_b2
  simp only [Option.bind_eq_bind, bs]
  rw [any_mem]
  obtain ⟨h0, h1, h2⟩ := h
  by_cases hz : z ∈ s.1
  · have hx : ("x" : Str).length = 1 := rfl
    rw [decide_eq_true hz, ctr, addS_ok (by rw [hx]; omega)]
    simp only [bs]
    have hl : (z ++ ("x" : Str)).length = z.length + 1 := by rw [PySem.Str.length_append, hx]
    refine ⟨_, rfl, .inr (show (z.cps ++ #[120]).toList.getLast? = some 120 by simp), by rw [hl]; omega, .inr ?_⟩
    rcases h2 with h2 | ⟨l, l1, l2, l3⟩
    · exact absurd hz h2
    · refine ⟨z :: l, List.nodup_cons.mpr ⟨fun hm => absurd (l3 z hm).2 (Nat.lt_irrefl _), l1⟩, by rw [List.length_cons, l2], fun y hy => ?_⟩
      rw [hl]
      rcases List.mem_cons.mp hy with rfl | hy
      · exact ⟨hz, by omega⟩
      · exact ⟨(l3 y hy).1, by have := (l3 y hy).2; omega⟩
  · rw [decide_eq_false hz, cfa]
    exact ⟨_, rfl, h0, by omega, .inl hz⟩
theorem names_eqL (pot : List Int) {many : Nat} (hm : many ≤ 100) : ∃ ns pot', m__law_names pot (many : Int) = some (ns, pot') ∧ ns.Nodup ∧ ns.length = many ∧ ∀ y ∈ ns, Pr y ∧ y.length ≤ 200 := by
  unfold m__law_names
  simp only [Option.bind_eq_bind, bs]
  rw [rngM0 (by omega)]
  simp only [bs]
  suffices h : ∀ (k i : Nat) (s : List Str × List Int), i + k = many → s.1.Nodup → s.1.length = i → (∀ y ∈ s.1, Pr y ∧ y.length ≤ 200) → ∃ s', forS (m__law_names_b1 ("abcdefghijklmnopqrstuvwxyzABCDEFGHIJKLMNOPQRSTUVWXYZ0123456789" : Str)) ((List.range' i k).map fun i : Nat => (i : Int)) s = some s' ∧ s'.1.Nodup ∧ s'.1.length = many ∧ ∀ y ∈ s'.1, Pr y ∧ y.length ≤ 200 by
    obtain ⟨s', e, h1, h2⟩ := h many 0 ([], pot) (by omega) List.nodup_nil rfl (fun y hy => (nomatch hy))
    have e' : forS (m__law_names_b1 ("abcdefghijklmnopqrstuvwxyzABCDEFGHIJKLMNOPQRSTUVWXYZ0123456789" : Str)) (tab many fun i => (i : Int)) ([], pot) = some s' := by
      unfold tab
      rw [List.range_eq_range']
      exact e
    rw [e']
    exact ⟨_, _, rfl, h1, h2⟩
  intro k
  induction k with
  | zero => intro i s hi h1 h2 h0; exact ⟨s, rfl, h1, by omega, h0⟩
  | succ k ih =>
    intro i s hi h1 h2 h0
    obtain ⟨ns, p⟩ := s
    replace h0 : ∀ y ∈ ns, Pr y ∧ y.length ≤ 200 := h0
    replace h1 : ns.Nodup := h1
    replace h2 : ns.length = i := h2
    show ∃ s', (m__law_names_b1 _ (i : Int) (ns, p) >>= forS (m__law_names_b1 _) ((List.range' (i + 1) k).map fun i : Nat => (i : Int))) = some s' ∧ _
    have step : ∃ s', m__law_names_b1 ("abcdefghijklmnopqrstuvwxyzABCDEFGHIJKLMNOPQRSTUVWXYZ0123456789" : Str) (i : Int) (ns, p) = some s' ∧ s'.1.Nodup ∧ s'.1.length = i + 1 ∧ ∀ y ∈ s'.1, Pr y ∧ y.length ≤ 200 := by
      unfold m__law_names_b1
      simp only [Option.bind_eq_bind, bs]
      obtain ⟨a, p1, e, ha⟩ := draw_lit p 62 (by decide) (z := 62) rfl
      rw [e]
      simp only [bs]
      obtain ⟨c, e⟩ := ixS_ok ha
      rw [e]
      simp only [bs]
      obtain ⟨b, p2, e, hb⟩ := draw_lit p1 4 (by decide) (z := 4) rfl
      rw [e]
      simp only [bs]
      obtain ⟨z, e, hz⟩ := mulS_ok c hb
      rw [e]
      simp only [bs]
      obtain ⟨a', p3, e, ha'⟩ := draw_lit p2 62 (by decide) (z := 62) rfl
      rw [e]
      simp only [bs]
      obtain ⟨c', e⟩ := ixS_ok ha'
      rw [e]
      simp only [bs]
      rw [addS_ok (by rw [len1]; omega)]
      simp only [bs]
      rw [rngM0 (by omega)]
      simp only [bs]
      obtain ⟨z', e, h30, h3, h4⟩ := forS_keep (body := m__law_names_b2 (ns, p)) (xs := tab i fun i => (i : Int)) (k := 0) (I := Nm ns) (s := z ++ ⟨#[c']⟩) ⟨.inl (by rw [PySem.Str.length_append, len1]; omega), by rw [PySem.Str.length_append, len1]; omega, .inr ⟨[], List.nodup_nil, rfl, fun y hy => by cases hy⟩⟩ (fun x _ j s _ hj hs => names_b2 (s := (ns, p)) (by rw [tab_len] at hj; omega) hs)
      rw [e]
      simp only [bs]
      have h5 : z' ∉ ns := by
        rcases h4 with h4 | ⟨l, l1, l2, l3⟩
        · exact h4
        · intro hz'
          have := lsub (l := z' :: l) (l2 := ns) (List.nodup_cons.mpr ⟨fun hm => absurd (l3 z' hm).2 (Nat.lt_irrefl _), l1⟩) (fun y hy => by
            rcases List.mem_cons.mp hy with rfl | hy
            · exact hz'
            · exact (l3 y hy).1)
          rw [List.length_cons, l2, tab_len, h2] at this
          omega
      unfold appM
      rw [sz_t (by omega)]
      refine ⟨_, rfl, ?_, by simp [h2], fun y hy => ?_⟩
      · show (ns ++ [z']).Nodup
        rw [List.nodup_append]
        exact ⟨h1, by simp, fun x hx y hy => by
          rw [List.mem_singleton] at hy
          subst hy
          exact fun e => h5 (e ▸ hx)⟩
      · rcases List.mem_append.mp hy with hy | hy
        · exact h0 y hy
        · rw [List.mem_singleton.mp hy]
          exact ⟨h30, by rw [tab_len] at h3; omega⟩
    obtain ⟨s1, e, n1, n2, n3⟩ := step
    rw [e]
    exact ih (i + 1) s1 (by omega) n1 n2 n3
theorem names_eq (pot : List Int) {many : Nat} (hm : many ≤ 100) : ∃ ns pot', m__law_names pot (many : Int) = some (ns, pot') ∧ ns.Nodup ∧ ns.length = many := by
  obtain ⟨ns, p, e, h1, h2, _⟩ := names_eqL pot hm
  exact ⟨ns, p, e, h1, h2⟩
/-! ### tables -/
section
variable {α : Type}
theorem put_new {d : List (Str × α)} {k : Str} {x : α} (h : k ∉ d.map (·.1)) : putM d k x = d ++ [(k, x)] := by
  unfold putM
  rw [if_neg]
  intro h2
  obtain ⟨q, hq, e⟩ := List.any_eq_true.mp h2
  exact h (List.mem_map.mpr ⟨q, hq, of_decide_eq_true e⟩)
theorem put_old {d : List (Str × α)} {k : Str} {x : α} (h : k ∈ d.map (·.1)) : putM d k x = d.map fun q => if q.1 = k then (q.1, x) else q := by
  unfold putM
  rw [if_pos]
  obtain ⟨q, hq, e⟩ := List.mem_map.mp h
  exact List.any_eq_true.mpr ⟨q, hq, decide_eq_true e⟩
theorem put_keys {d : List (Str × α)} {k : Str} {x : α} : (putM d k x).map (·.1) = if k ∈ d.map (·.1) then d.map (·.1) else d.map (·.1) ++ [k] := by
  by_cases h : k ∈ d.map (·.1)
  · rw [put_old h, if_pos h, List.map_map]
    refine List.map_congr_left fun q _ => ?_
    show (if q.1 = k then (q.1, x) else q).1 = q.1
    split <;> rfl
  · rw [put_new h, if_neg h, List.map_append]; rfl
theorem put_mem {d : List (Str × α)} {k : Str} {x : α} {q : Str × α} (h : q ∈ putM d k x) : q ∈ d ∨ q = (k, x) := by
  by_cases hk : k ∈ d.map (·.1)
  · rw [put_old hk] at h
    obtain ⟨r, hr, e⟩ := List.mem_map.mp h
    by_cases e2 : r.1 = k
    · rw [if_pos e2] at e; subst e; right; rw [e2]
    · rw [if_neg e2] at e; subst e; exact .inl hr
  · rw [put_new hk] at h
    rcases List.mem_append.mp h with h | h
    · exact .inl h
    · exact .inr (List.mem_singleton.mp h)
theorem put_len {d : List (Str × α)} {k : Str} {x : α} : (putM d k x).length ≤ d.length + 1 := by
  have := congrArg List.length (put_keys (d := d) (k := k) (x := x))
  rw [List.length_map] at this
  rw [this]
  split <;> simp
theorem look_mem {d : List (Str × α)} {k : Str} {x : α} (h : lookM d k = some x) : (k, x) ∈ d := by
  unfold lookM at h
  cases e : d.find? fun q => decide (q.1 = k) with
  | none => rw [e] at h; cases h
  | some q =>
    rw [e] at h
    have h1 : q.1 = k := of_decide_eq_true (p := q.1 = k) (List.find?_some (p := fun q : Str × α => decide (q.1 = k)) e)
    have h2 := List.mem_of_find?_eq_some e
    have h3 : q.2 = x := Option.some.inj h
    rw [← h1, ← h3]
    exact h2
theorem look_nd : ∀ {d : List (Str × α)} {k : Str} {x : α}, (d.map (·.1)).Nodup → (k, x) ∈ d → lookM d k = some x
  | q :: d, k, x, nd, h => by
    obtain ⟨n1, n2⟩ := List.nodup_cons.mp nd
    unfold lookM
    rw [List.find?_cons]
    rcases List.mem_cons.mp h with rfl | h
    · rw [decide_eq_true rfl]; rfl
    · have hne : ¬ q.1 = k := fun e => n1 (List.mem_map.mpr ⟨(k, x), h, e.symm⟩)
      rw [decide_eq_false hne]
      exact look_nd n2 h
theorem putMM_ok {d : List (Str × α)} {k : Str} {x : α} (h : d.length < 100000) : putMM d k x = some (putM d k x) := by unfold putMM; rw [decide_eq_true h]; rfl
/-- a table of elements, of at most l entries -/
structure Tb (n l : Nat) (d : List (Str × Int)) : Prop where
  nd : (d.map (·.1)).Nodup
  rg : ∀ q ∈ d, ∃ a : Nat, a < n ∧ q.2 = (a : Int)
  ln : d.length ≤ l
theorem Tb.nil {n l : Nat} : Tb n l [] := ⟨List.nodup_nil, fun q hq => (nomatch hq), Nat.zero_le _⟩
theorem Tb.imp {n l l' : Nat} {d : List (Str × Int)} (t : Tb n l d) (h : l ≤ l') : Tb n l' d := ⟨t.nd, t.rg, Nat.le_trans t.ln h⟩
theorem Tb.put {n l a : Nat} {k : Str} {d : List (Str × Int)} (t : Tb n l d) (ha : a < n) : Tb n (l + 1) (putM d k (a : Int)) where
  nd := by
    rw [put_keys]
    split
    · exact t.nd
    · rename_i h
      rw [List.nodup_append]
      exact ⟨t.nd, by simp, fun x hx y hy => by
        rw [List.mem_singleton] at hy
        subst hy
        exact fun e => h (e ▸ hx)⟩
  rg q hq := by
    rcases put_mem hq with h | rfl
    · exact t.rg q h
    · exact ⟨a, ha, rfl⟩
  ln := Nat.le_trans put_len (Nat.add_le_add_right t.ln 1)
theorem Tb.get {n l a : Nat} {d : List (Str × Int)} (t : Tb n l d) (ha : a < n) (k : Str) : ∃ b : Nat, b < n ∧ (lookM d k).getD (a : Int) = (b : Int) := by
  cases e : lookM d k with
  | none => exact ⟨a, ha, rfl⟩
  | some x =>
    obtain ⟨b, hb, e2⟩ := t.rg _ (look_mem e)
    exact ⟨b, hb, e2⟩
/-- entry by entry made anew -/
theorem copy_loop {body : Str → List (Str × Int) → Option (List (Str × Int))} {d : List (Str × Int)} (nd : (d.map (·.1)).Nodup) (hl : d.length < 100000)
    (hb : ∀ k s, body k s = (lookM d k >>= fun x => putMM s k x)) : forS body (d.map (·.1)) [] = some d := by
  suffices h : ∀ (r s : List (Str × Int)), s ++ r = d → forS body (r.map (·.1)) s = some d from h d [] rfl
  intro r
  induction r with
  | nil => intro s e; rw [List.append_nil] at e; rw [e]; rfl
  | cons q r ih =>
    intro s e
    show (body q.1 s >>= forS body (r.map (·.1))) = some d
    have hq : (q.1, q.2) ∈ d := by rw [← e]; simp
    have hs : s.length < 100000 := by
      have := congrArg List.length e
      rw [List.length_append] at this
      omega
    have hn : q.1 ∉ s.map (·.1) := by
      rw [← e, List.map_append, List.map_cons, List.nodup_append] at nd
      exact fun hm => nd.2.2 q.1 hm q.1 (List.mem_cons_self ..) rfl
    rw [hb, look_nd nd hq]
    simp only [Option.bind_eq_bind, bs]
    rw [putMM_ok hs, put_new hn]
    simp only [bs]
    exact ih (s ++ [q]) (by rw [List.append_assoc]; exact e)
theorem same_self {d : List (Str × Int)} (nd : (d.map (·.1)).Nodup) : sameM d d = true := by
  unfold sameM
  rw [decide_eq_true rfl, Bool.true_and, List.all_eq_true]
  exact fun q hq => decide_eq_true (look_nd nd hq)
end
end My

namespace My
open PySem L2 Sim PyProof.Rows
/-! ### the pot -/
/-! ### the masks -/
def nts (ms : List Nat) : List Int := ms.map (fun k : Nat => (k : Int))
structure Masks (ms : List Nat) : Prop where
  nd : ms.Nodup
  lt : ∀ x ∈ ms, x < 32
  top : 31 ∈ ms
  cl : ∀ x ∈ ms, ∀ y ∈ ms, x &&& y ∈ ms
theorem bitAnd_nat (x y : Nat) : Builtin.bitAnd (x : Int) (y : Int) = ((x &&& y : Nat) : Int) := by
  rw [bitAnd_pp (by omega) (by omega)]; simp
theorem mem_nts {x : Nat} {ms : List Nat} : (x : Int) ∈ nts ms ↔ x ∈ ms := by
  unfold nts
  rw [List.mem_map]
  constructor
  · rintro ⟨k, hk, e⟩
    have : k = x := by omega
    subst this; exact hk
  · intro h; exact ⟨x, h, rfl⟩
theorem nts_len {ms : List Nat} : (nts ms).length = ms.length := by simp [nts]
theorem len_sub {α : Type} [BEq α] [LawfulBEq α] : ∀ {l l2 : List α}, l.Nodup → (∀ x ∈ l, x ∈ l2) → l.length ≤ l2.length
  | [], _, _, _ => Nat.zero_le _
  | x :: xs, l2, h, hs => by
    have hx := hs x (List.mem_cons_self ..)
    obtain ⟨h1, h2⟩ := List.nodup_cons.mp h
    have := len_sub (l := xs) (l2 := l2.erase x) h2 fun y hy => by
      have hne : y ≠ x := fun e => h1 (e ▸ hy)
      exact (List.mem_erase_of_ne hne).mpr (hs y (List.mem_cons_of_mem _ hy))
    rw [List.length_erase_of_mem hx] at this
    have := List.length_pos_of_mem hx
    simp only [List.length_cons]
    omega
theorem nodup_len {ms : List Nat} (h : ms.Nodup) (hl : ∀ x ∈ ms, x < 32) : ms.length ≤ 32 := by
  have := len_sub h (l2 := List.range 32) (fun x hx => List.mem_range.mpr (hl x hx))
  simpa using this
/-- all & v added -/
def addAll (v : Nat) : List Nat → List Nat → List Nat
  | [], s => s
  | x :: xs, s => addAll v xs (if x &&& v ∈ s then s else s ++ [x &&& v])
theorem addAll_mem {v : Nat} : ∀ {xs s : List Nat} {z : Nat}, z ∈ addAll v xs s ↔ z ∈ s ∨ ∃ x ∈ xs, x &&& v = z
  | [], s, z => by simp [addAll]
  | x :: xs, s, z => by
    unfold addAll
    rw [addAll_mem]
    split
    · rename_i h
      constructor
      · rintro (h1 | ⟨y, hy, rfl⟩)
        · exact Or.inl h1
        · exact Or.inr ⟨y, List.mem_cons_of_mem _ hy, rfl⟩
      · rintro (h1 | ⟨y, hy, rfl⟩)
        · exact Or.inl h1
        · rcases List.mem_cons.mp hy with rfl | hy
          · exact Or.inl h
          · exact Or.inr ⟨y, hy, rfl⟩
    · constructor
      · rintro (h1 | ⟨y, hy, rfl⟩)
        · rcases List.mem_append.mp h1 with h1 | h1
          · exact Or.inl h1
          · rw [List.mem_singleton] at h1
            exact Or.inr ⟨x, List.mem_cons_self .., h1.symm⟩
        · exact Or.inr ⟨y, List.mem_cons_of_mem _ hy, rfl⟩
      · rintro (h1 | ⟨y, hy, rfl⟩)
        · exact Or.inl (List.mem_append_left _ h1)
        · rcases List.mem_cons.mp hy with rfl | hy
          · exact Or.inl (List.mem_append_right _ (List.mem_singleton.mpr rfl))
          · exact Or.inr ⟨y, hy, rfl⟩
theorem addAll_nd {v : Nat} : ∀ {xs s : List Nat}, s.Nodup → (addAll v xs s).Nodup
  | [], s, h => h
  | x :: xs, s, h => by
    unfold addAll
    split
    · exact addAll_nd h
    · rename_i hx
      exact addAll_nd (by
        rw [List.nodup_append]
        refine ⟨h, by simp, fun a ha b hb e => ?_⟩
        rw [List.mem_singleton] at hb
        subst hb; subst e
        exact hx ha)
theorem addAll_lt {v : Nat} {xs s : List Nat} (h : ∀ x ∈ s, x < 32) (hv : v < 32) : ∀ x ∈ addAll v xs s, x < 32 := by
  intro z hz
  rcases addAll_mem.mp hz with h1 | ⟨x, _, rfl⟩
  · exact h z h1
  · exact Nat.lt_of_le_of_lt Nat.and_le_right hv
theorem addAll_masks {v : Nat} {ms : List Nat} (h : Masks ms) (hv : v < 32) : Masks (addAll v ms ms) := by
  refine ⟨addAll_nd h.nd, addAll_lt h.lt hv, addAll_mem.mpr (Or.inl h.top), fun x hx y hy => ?_⟩
  refine addAll_mem.mpr ?_
  rcases addAll_mem.mp hx with h1 | ⟨a, ha, rfl⟩ <;> rcases addAll_mem.mp hy with h2 | ⟨b, hb, rfl⟩
  · exact Or.inl (h.cl _ h1 _ h2)
  · exact Or.inr ⟨x &&& b, h.cl _ h1 _ hb, Nat.and_assoc ..⟩
  · exact Or.inr ⟨a &&& y, h.cl _ ha _ h2, by rw [Nat.and_assoc, Nat.and_assoc, Nat.and_comm y v]⟩
  · refine Or.inr ⟨a &&& b, h.cl _ ha _ hb, ?_⟩
    rw [Nat.and_assoc, Nat.and_assoc, ← Nat.and_assoc v b v, Nat.and_comm v b, Nat.and_assoc b v v, Nat.and_self]
theorem masks_b2 {v : Nat} {pp : List Int} (hv : v < 32) : ∀ {xs s : List Nat}, s.Nodup → (∀ x ∈ s, x < 32) → forS (m__law_masks_b2 ((v : Int), pp)) (nts xs) (nts s) = some (nts (addAll v xs s))
  | [], s, _, _ => rfl
  | x :: xs, s, h, hl => by
    have ih : ∀ {s : List Nat}, s.Nodup → (∀ x ∈ s, x < 32) → forS (m__law_masks_b2 ((v : Int), pp)) (nts xs) (nts s) = some (nts (addAll v xs s)) := fun h1 h2 => masks_b2 hv h1 h2
    show (m__law_masks_b2 ((v : Int), pp) (x : Int) (nts s) >>= forS (m__law_masks_b2 ((v : Int), pp)) (nts xs)) = _
    have h1 := addAll_nd (v := v) (xs := [x]) h
    have h2 := addAll_lt (v := v) (xs := [x]) hl hv
    unfold addAll at h1 h2
    unfold addAll at h1 h2
    unfold addAll
    have e : m__law_masks_b2 ((v : Int), pp) (x : Int) (nts s) = some (nts (if x &&& v ∈ s then s else s ++ [x &&& v])) := by
      unfold m__law_masks_b2
      simp only [Option.bind_eq_bind, bs, bitAnd_nat]
      have hm : ((nts s).any fun z => z == ((x &&& v : Nat) : Int)) = decide (x &&& v ∈ s) := by
        cases q : ((nts s).any fun z => z == ((x &&& v : Nat) : Int)) with
        | true =>
          rw [List.any_eq_true] at q
          obtain ⟨z, hz, e⟩ := q
          rw [beq_iff_eq] at e; subst e
          simp [mem_nts.mp hz]
        | false =>
          have : x &&& v ∉ s := fun hx => by
            rw [List.any_eq_false] at q
            exact q _ (mem_nts.mpr hx) (by simp)
          simp [this]
      rw [hm]
      by_cases q : x &&& v ∈ s
      · simp [q]
      · have := nodup_len h hl
        simp only [q, decide_false, Bool.not_false, cond_true, if_false]
        unfold appM
        rw [sz_t (by rw [nts_len]; omega)]
        simp [nts]
    rw [e]
    exact ih h1 h2
structure MSt (most : Nat) (s : List Int × List Int) : Prop where
  ex : ∃ ms, Masks ms ∧ s.1 = nts ms ∧ ms.length ≤ most
theorem masks_b1 {most : Nat} {x : Int} {s : List Int × List Int} (h : MSt most s) : ∃ s', m__law_masks_b1 (most : Int) x s = some s' ∧ MSt most s' := by
  obtain ⟨m, p⟩ := s
  obtain ⟨ms, h1, rfl, h2⟩ := h.ex
  unfold m__law_masks_b1
  simp only [Option.bind_eq_bind, bs]
  obtain ⟨v, pot', e, hv⟩ := draw_lit p 32 (by decide) (z := 32) rfl
  rw [e]
  simp only [bs]
  rw [masks_b2 hv h1.nd h1.lt]
  simp only [bs, nts_len]
  by_cases q : (addAll v ms ms).length ≤ most
  · have : decide (((addAll v ms ms).length : Int) ≤ (most : Int)) = true := by simp; exact q
    rw [this]
    exact ⟨_, rfl, ⟨_, addAll_masks h1 hv, rfl, q⟩⟩
  · have : decide (((addAll v ms ms).length : Int) ≤ (most : Int)) = false := by simp; omega
    rw [this]
    exact ⟨_, rfl, ⟨_, h1, rfl, h2⟩⟩
theorem masks_b3 {xs : List Int} {k : Nat} {x : Int} {s : List Int × (List Int × List Int)} (hk : k < xs.length) (hl : xs.length < 100) (h : (s.1 ++ s.2.2).Perm xs ∧ s.1.length = k) :
    ∃ s', m__law_masks_b3 x s = some s' ∧ (s'.1 ++ s'.2.2).Perm xs ∧ s'.1.length = k + 1 := by
  obtain ⟨a, p, r⟩ := s
  obtain ⟨h1, h2⟩ := h
  have h1 : (a ++ r).Perm xs := h1
  have h2 : a.length = k := h2
  have hr := h1.length_eq
  rw [List.length_append] at hr
  unfold m__law_masks_b3
  simp only [Option.bind_eq_bind, bs]
  obtain ⟨v, pot', e, hv⟩ := draw_eq p (n := r.length) (by omega)
  rw [e]
  simp only [bs]
  rw [popAt_eq hv (by omega)]
  simp only [bs]
  unfold appM
  rw [sz_t (by omega)]
  refine ⟨_, rfl, ?_, by simp [h2]⟩
  show ((a ++ [r[v]]) ++ r.eraseIdx v).Perm xs
  refine (List.Perm.trans ?_ h1)
  rw [List.append_assoc]
  exact List.Perm.append_left a (perm_erase hv).symm
theorem Masks.perm {ms ms' : List Nat} (h : Masks ms) (p : ms'.Perm ms) : Masks ms' :=
  ⟨p.nodup_iff.mpr h.nd, fun x hx => h.lt x (p.mem_iff.mp hx), p.mem_iff.mpr h.top, fun x hx y hy => p.mem_iff.mpr (h.cl x (p.mem_iff.mp hx) y (p.mem_iff.mp hy))⟩
theorem perm_nts {xs : List Int} {ms : List Nat} (p : xs.Perm (nts ms)) : ∃ ms', xs = nts ms' ∧ ms'.Perm ms := by
  refine ⟨xs.map Int.toNat, ?_, ?_⟩
  · unfold nts
    rw [List.map_map]
    have : ∀ x ∈ xs, (((fun k : Nat => (k : Int)) ∘ Int.toNat) x) = x := fun x hx => by
      obtain ⟨k, _, rfl⟩ := List.mem_map.mp (p.mem_iff.mp hx)
      simp
    rw [List.map_congr_left this]
    simp
  · have := p.map Int.toNat
    unfold nts at this
    rw [List.map_map] at this
    have e : (Int.toNat ∘ fun k : Nat => (k : Int)) = id := by funext k; simp
    rw [e, List.map_id] at this
    exact this
theorem masks_eq (pot : List Int) {most : Nat} (hm : 1 ≤ most) : ∃ ms pot', m__law_masks pot (most : Int) = some (nts ms, pot') ∧ Masks ms ∧ ms.length ≤ most := by
  unfold m__law_masks
  simp only [Option.bind_eq_bind, bs]
  obtain ⟨v, p1, e, hv⟩ := draw_lit pot 6 (by decide) (z := 6) rfl
  rw [e]
  simp only [bs]
  have e2 : modM ((v : Int) + 1) 6 = some (((v + 1) % 6 : Nat) : Int) := by
    unfold modM
    rw [if_pos (by decide)]
    simp
  rw [e2]
  simp only [bs]
  rw [rngM0 (by omega)]
  simp only [bs]
  obtain ⟨s, e3, h3⟩ := forS_keep (body := m__law_masks_b1 (most : Int)) (xs := tab ((v + 1) % 6) fun i => (i : Int)) (k := 0) (I := fun _ s => MSt most s) (s := ([31], p1)) ⟨[31], ⟨by simp, by simp, by simp, by simp⟩, rfl, hm⟩ (fun x _ j s _ _ hs => masks_b1 hs)
  rw [e3]
  simp only [bs]
  obtain ⟨m, p2⟩ := s
  obtain ⟨ms, h4, rfl, h5⟩ := h3.ex
  have h6 := nodup_len h4.nd h4.lt
  rw [nts_len, if_pos (by omega)]
  simp only [bs]
  have hp := srtI_perm (nts ms)
  have hl := hp.length_eq
  rw [nts_len] at hl
  rw [hl, rngM0 (by omega)]
  simp only [bs]
  obtain ⟨s, e7, h7⟩ := forS_keep (body := m__law_masks_b3) (xs := tab ms.length fun i => (i : Int)) (k := 0) (I := fun j (s : List Int × (List Int × List Int)) => (s.1 ++ s.2.2).Perm (srtI (nts ms)) ∧ s.1.length = j) (s := ([], (p2, srtI (nts ms)))) ⟨by simp, rfl⟩ (by
    intro x _ j s _ hj hs
    rw [tab_len] at hj
    exact masks_b3 (by omega) (by omega) hs)
  rw [e7]
  simp only [bs]
  obtain ⟨a, p3, r⟩ := s
  obtain ⟨h8, h9⟩ := h7
  have h8 : (a ++ r).Perm (srtI (nts ms)) := h8
  have h9 : a.length = 0 + (tab ms.length fun i => (i : Int)).length := h9
  rw [tab_len] at h9
  have h10 := h8.length_eq
  rw [List.length_append] at h10
  have : r = [] := List.length_eq_zero_iff.mp (by omega)
  subst this
  rw [List.append_nil] at h8
  obtain ⟨ms', rfl, h11⟩ := perm_nts (h8.trans hp)
  exact ⟨ms', p3, rfl, h4.perm h11, by rw [h11.length_eq]; exact h5⟩

/-! ### the order of the masks -/
def mle (ms : List Nat) (a b : Nat) : Bool := (ms.getD a 0 &&& ms.getD b 0) == ms.getD a 0
def mmeet (ms : List Nat) (a b : Nat) : Nat := ms.idxOf (ms.getD a 0 &&& ms.getD b 0)
def andAll : List Nat → Nat
  | [] => 31
  | x :: xs => x &&& andAll xs
def mjoin (ms : List Nat) (a b : Nat) : Nat := ms.idxOf (andAll (ms.filter fun z => (ms.getD a 0 &&& z == ms.getD a 0) && (ms.getD b 0 &&& z == ms.getD b 0)))
theorem getD_mem {ms : List Nat} {a : Nat} (h : a < ms.length) : ms.getD a 0 ∈ ms := by
  rw [List.getD_eq_getElem?_getD, List.getElem?_eq_getElem h]; exact List.getElem_mem h
theorem getD_inj {ms : List Nat} (hd : ms.Nodup) {a b : Nat} (ha : a < ms.length) (hb : b < ms.length) (h : ms.getD a 0 = ms.getD b 0) : a = b := by
  rw [List.getD_eq_getElem?_getD, List.getD_eq_getElem?_getD, List.getElem?_eq_getElem ha, List.getElem?_eq_getElem hb] at h
  exact (List.getElem_inj hd).mp h
theorem getD_idx {ms : List Nat} {x : Nat} (h : x ∈ ms) : ms.idxOf x < ms.length ∧ ms.getD (ms.idxOf x) 0 = x := by
  have := List.idxOf_lt_length_of_mem h
  refine ⟨this, ?_⟩
  rw [List.getD_eq_getElem?_getD, List.getElem?_eq_getElem this]
  exact List.getElem_idxOf this
theorem andAll_mem {ms : List Nat} (h : Masks ms) : ∀ {xs : List Nat}, (∀ x ∈ xs, x ∈ ms) → andAll xs ∈ ms
  | [], _ => h.top
  | x :: xs, hx => h.cl _ (hx x (List.mem_cons_self ..)) _ (andAll_mem h fun y hy => hx y (List.mem_cons_of_mem _ hy))
theorem andAll_le {xs : List Nat} : ∀ {x : Nat}, x ∈ xs → andAll xs &&& x = andAll xs := by
  induction xs with
  | nil => intro x h; cases h
  | cons y ys ih =>
    intro x h
    unfold andAll
    rcases List.mem_cons.mp h with rfl | h
    · rw [Nat.and_comm x (andAll ys), Nat.and_assoc, Nat.and_self]
    · rw [Nat.and_assoc, ih h]
theorem le_andAll {a : Nat} (ha : a < 32) : ∀ {xs : List Nat}, (∀ x ∈ xs, a &&& x = a) → a &&& andAll xs = a
  | [], _ => by
    have : a % 2 ^ 5 = a := Nat.mod_eq_of_lt ha
    rw [← Nat.and_two_pow_sub_one_eq_mod] at this
    exact this
  | x :: xs, h => by
    show a &&& (x &&& andAll xs) = a
    rw [← Nat.and_assoc, h x (List.mem_cons_self ..), le_andAll ha fun y hy => h y (List.mem_cons_of_mem _ hy)]
theorem mOrd {ms : List Nat} (h : Masks ms) : Ord ms.length (mle ms) where
  rf a _ := by unfold mle; rw [Nat.and_self]; simp
  an a b ha hb h1 h2 := by
    unfold mle at h1 h2
    rw [beq_iff_eq] at h1 h2
    rw [Nat.and_comm] at h2
    exact getD_inj h.nd ha hb (h1.symm.trans h2)
  tr a b c ha hb hc h1 h2 := by
    unfold mle at h1 h2 ⊢
    rw [beq_iff_eq] at h1 h2 ⊢
    rw [← h1, Nat.and_assoc, h2]
theorem mMeet {ms : List Nat} (h : Masks ms) : Lub ms.length (fun a b => mle ms b a) (mmeet ms) where
  lt a b ha hb := (getD_idx (h.cl _ (getD_mem ha) _ (getD_mem hb))).1
  l a b ha hb := by
    unfold mle mmeet
    rw [(getD_idx (h.cl _ (getD_mem ha) _ (getD_mem hb))).2, beq_iff_eq, Nat.and_comm (ms.getD a 0), Nat.and_assoc, Nat.and_self]
  r a b ha hb := by
    unfold mle mmeet
    rw [(getD_idx (h.cl _ (getD_mem ha) _ (getD_mem hb))).2, beq_iff_eq, Nat.and_assoc, Nat.and_self]
  le a b c ha hb hc h1 h2 := by
    unfold mle mmeet at *
    rw [(getD_idx (h.cl _ (getD_mem ha) _ (getD_mem hb))).2]
    rw [beq_iff_eq] at *
    rw [← Nat.and_assoc, h1, h2]
theorem mJoin {ms : List Nat} (h : Masks ms) : Lub ms.length (mle ms) (mjoin ms) := by
  have hm : ∀ a b, andAll (ms.filter fun z => (ms.getD a 0 &&& z == ms.getD a 0) && (ms.getD b 0 &&& z == ms.getD b 0)) ∈ ms := fun a b => andAll_mem h fun x hx => (List.mem_filter.mp hx).1
  have hu : ∀ a b x, x ∈ (ms.filter fun z => (ms.getD a 0 &&& z == ms.getD a 0) && (ms.getD b 0 &&& z == ms.getD b 0)) ↔ x ∈ ms ∧ ms.getD a 0 &&& x = ms.getD a 0 ∧ ms.getD b 0 &&& x = ms.getD b 0 := fun a b x => by
    rw [List.mem_filter]; simp
  refine ⟨fun a b ha hb => (getD_idx (hm a b)).1, fun a b ha hb => ?_, fun a b ha hb => ?_, fun a b c ha hb hc h1 h2 => ?_⟩
  · unfold mle mjoin
    rw [(getD_idx (hm a b)).2, beq_iff_eq]
    exact le_andAll (h.lt _ (getD_mem ha)) fun x hx => ((hu a b x).mp hx).2.1
  · unfold mle mjoin
    rw [(getD_idx (hm a b)).2, beq_iff_eq]
    exact le_andAll (h.lt _ (getD_mem hb)) fun x hx => ((hu a b x).mp hx).2.2
  · unfold mle mjoin at *
    rw [(getD_idx (hm a b)).2]
    rw [beq_iff_eq] at *
    exact andAll_le ((hu a b _).mpr ⟨getD_mem hc, h1, h2⟩)
theorem Masks.ne {ms : List Nat} (h : Masks ms) : 1 ≤ ms.length := List.length_pos_of_mem h.top
theorem mLat {ms : List Nat} (h : Masks ms) (hl : ms.length ≤ 12) : Lat ms.length (mle ms) (mjoin ms) (mmeet ms) := ⟨h.ne, hl, mOrd h, mJoin h, mMeet h⟩
theorem atI_nts {ms : List Nat} {a : Nat} (h : a < ms.length) : atI (nts ms) (a : Int) = some ((ms.getD a 0 : Nat) : Int) := by
  rw [atI_nat (by rw [nts_len]; exact h)]
  simp [nts, List.getD_eq_getElem?_getD, List.getElem?_eq_getElem h]
theorem under_eq {ms : List Nat} {a b : Nat} (ha : a < ms.length) (hb : b < ms.length) : m__law_under (nts ms) (a : Int) (b : Int) = some (mle ms a b) := by
  unfold m__law_under
  rw [atI_nts ha, atI_nts hb]
  simp only [Option.bind_eq_bind, bs, bitAnd_nat]
  unfold mle
  congr 1
  cases e : (ms.getD a 0 &&& ms.getD b 0 == ms.getD a 0) with
  | true => rw [beq_iff_eq] at e; rw [e]; simp
  | false => rw [beq_eq_false_iff_ne] at e ⊢; omega
end My

namespace My
open PySem L2 Sim PyProof.Rows
theorem forS_flat {α β γ : Type} {body : β → List γ → Option (List γ)} {a : α → β} {f : α → List γ} {B : Nat} : ∀ {xs : List α} {s : List γ}, (∀ x ∈ xs, ∀ s, s.length + (f x).length ≤ B → body (a x) s = some (s ++ f x)) → s.length + (xs.flatMap f).length ≤ B →
    forS body (xs.map a) s = some (s ++ xs.flatMap f)
  | [], s, _, _ => by simp [forS]
  | x :: xs, s, h, hB => by
    show (body (a x) s >>= forS body (xs.map a)) = _
    rw [List.flatMap_cons, List.length_append] at hB
    rw [h x (List.mem_cons_self ..) s (by omega)]
    show forS body (xs.map a) (s ++ f x) = _
    rw [forS_flat (fun y hy => h y (List.mem_cons_of_mem _ hy)) (by rw [List.length_append]; omega), List.flatMap_cons, List.append_assoc]
theorem flat_len {α γ : Type} {f : α → List γ} {k : Nat} : ∀ {xs : List α}, (∀ x ∈ xs, (f x).length ≤ k) → (xs.flatMap f).length ≤ xs.length * k
  | [], _ => by simp
  | x :: xs, h => by
    rw [List.flatMap_cons, List.length_append, List.length_cons, Nat.succ_mul]
    have := flat_len (fun y hy => h y (List.mem_cons_of_mem _ hy))
    have := h x (List.mem_cons_self ..)
    omega
theorem andT {b : Option Bool} : andO (some true) b = b := rfl
theorem orF {b : Option Bool} : orO (some false) b = b := rfl
theorem natIn {n a : Nat} (h : a < n) : (decide ((a : Int) < 0) || decide ((n : Int) ≤ (a : Int))) = false := by simp; omega
theorem idx_nts {ms : List Nat} (nd : ms.Nodup) {a : Nat} (ha : a < ms.length) : idxM (fun a b => a == b) (nts ms) ((ms.getD a 0 : Nat) : Int) = some (a : Int) := by
  unfold idxM
  have e : (nts ms).findIdx? (fun z => z == ((ms.getD a 0 : Nat) : Int)) = some a := by
    rw [List.findIdx?_eq_some_iff_getElem]
    refine ⟨by rw [nts_len]; exact ha, ?_, ?_⟩
    · simp [nts, List.getD_eq_getElem?_getD, List.getElem?_eq_getElem ha]
    · intro k hk
      have hk' : k < ms.length := by omega
      have : ms.getD k 0 ≠ ms.getD a 0 := fun z => by have := getD_inj nd hk' ha z; omega
      simp only [nts, List.getElem_map]
      rw [List.getD_eq_getElem?_getD, List.getElem?_eq_getElem hk', List.getD_eq_getElem?_getD, List.getElem?_eq_getElem ha] at this
      rw [List.getD_eq_getElem?_getD, List.getElem?_eq_getElem ha]
      simp only [Option.getD_some] at this ⊢
      simp; omega
  rw [e]; rfl
theorem minL_some : ∀ {xs : List Int}, xs ≠ [] → ∃ m, minL xs = some m
  | [], h => absurd rfl h
  | [x], _ => ⟨x, rfl⟩
  | x :: y :: ys, _ => by
    obtain ⟨k, hk⟩ := minL_some (xs := y :: ys) (by simp)
    unfold minL
    rw [hk]
    exact ⟨_, rfl⟩
theorem minL_of {xs : List Int} {m : Int} (hm : m ∈ xs) (h : ∀ y ∈ xs, m ≤ y) : minL xs = some m := by
  obtain ⟨k, hk⟩ := minL_some (List.ne_nil_of_mem hm)
  obtain ⟨h1, h2⟩ := minL_ok hk
  have := h2 m hm
  have := h k h1
  rw [hk]; congr 1; omega
theorem filter_lt {α : Type} {p q : α → Bool} : ∀ {xs : List α}, (∀ x ∈ xs, q x = true → p x = true) → (∃ x ∈ xs, p x = true ∧ q x = false) → (xs.filter q).length < (xs.filter p).length
  | [], _, h => by obtain ⟨_, h, _⟩ := h; cases h
  | x :: xs, h, h2 => by
    have hle : ∀ {xs : List α}, (∀ x ∈ xs, q x = true → p x = true) → (xs.filter q).length ≤ (xs.filter p).length := by
      intro xs
      induction xs with
      | nil => intro _; simp
      | cons y ys ih =>
        intro h
        have := ih fun z hz => h z (List.mem_cons_of_mem _ hz)
        have h1 := h y (List.mem_cons_self ..)
        simp only [List.filter_cons]
        cases e : q y <;> cases e2 : p y <;> simp_all <;> omega
    have hx := h x (List.mem_cons_self ..)
    have ht := fun y hy => h y (List.mem_cons_of_mem x hy)
    obtain ⟨y, hy, h3, h4⟩ := h2
    simp only [List.filter_cons]
    rcases List.mem_cons.mp hy with rfl | hy
    · rw [h3, h4]
      have := hle ht
      simp
      omega
    · have := filter_lt ht ⟨y, hy, h3, h4⟩
      cases e : q x <;> cases e2 : p x <;> simp_all <;> omega

/-- a loop over places, what holds at each -/
theorem forS_ix {α σ : Type} {body : α → σ → Option σ} {a : Nat → α} {I : Nat → σ → Prop} {n : Nat} {s : σ} (h0 : I 0 s) (h : ∀ i < n, ∀ s, I i s → ∃ s', body (a i) s = some s' ∧ I (i + 1) s') : ∃ s', forS body (tab n a) s = some s' ∧ I n s' := by
  suffices h' : ∀ m k s, k + m = n → I k s → ∃ s', forS body ((List.range' k m).map a) s = some s' ∧ I n s' by
    have := h' n 0 s (by omega) h0
    rw [← List.range_eq_range'] at this
    exact this
  intro m
  induction m with
  | zero => intro k s hk hI; have : k = n := by omega
            subst this; exact ⟨s, rfl, hI⟩
  | succ m ih =>
    intro k s hk hI
    obtain ⟨s1, e1, h1⟩ := h k (by omega) s hI
    obtain ⟨s2, e2, h2⟩ := ih (k + 1) s1 (by omega) h1
    refine ⟨s2, ?_, h2⟩
    show (body (a k) s >>= forS body ((List.range' (k + 1) m).map a)) = _
    rw [e1]; exact e2
theorem forS_ls {α σ : Type} {body : α → σ → Option σ} {I : List α → σ → Prop} : ∀ {xs pre : List α} {s : σ}, I pre s → (∀ pre x s, x ∈ xs → I pre s → ∃ s', body x s = some s' ∧ I (pre ++ [x]) s') → ∃ s', forS body xs s = some s' ∧ I (pre ++ xs) s'
  | [], pre, s, h0, _ => ⟨s, rfl, by rw [List.append_nil]; exact h0⟩
  | x :: xs, pre, s, h0, h => by
    obtain ⟨s1, e1, h1⟩ := h pre x s (List.mem_cons_self ..) h0
    obtain ⟨s2, e2, h2⟩ := forS_ls (xs := xs) (pre := pre ++ [x]) h1 fun pre y s hy => h pre y s (List.mem_cons_of_mem _ hy)
    refine ⟨s2, ?_, by rw [List.append_assoc] at h2; exact h2⟩
    show (body x s >>= forS body xs) = _
    rw [e1]; exact e2
theorem forL_some {α β ρ : Type} {body : β → Unit → Option (Stp Unit ρ)} {a : α → β} {g : α → Option ρ} : ∀ {xs : List α}, (∀ x ∈ xs, body (a x) () = some (match g x with | some r => .rt r | none => .nx ())) →
    forL body (xs.map a) () = some (match xs.findSome? g with | some r => .inr r | none => .inl ())
  | [], _ => rfl
  | x :: xs, h => by
    show (body (a x) () >>= stpK (forL body (xs.map a))) = _
    rw [h x (List.mem_cons_self ..), List.findSome?_cons]
    cases g x with
    | some r => rfl
    | none => exact forL_some fun y hy => h y (List.mem_cons_of_mem _ hy)
end My

namespace My
open PySem L2 Sim PyProof.Rows
/-! ### all related pairs -/
def relp (ms : List Nat) : List (Int × Int) := (List.range ms.length).flatMap fun a => (List.range ms.length).flatMap fun b => if (!(a == b) && mle ms a b) = true then [((a : Int), (b : Int))] else []
theorem relp_mem {ms : List Nat} {p : Int × Int} : p ∈ relp ms ↔ ∃ a b, a < ms.length ∧ b < ms.length ∧ (!(a == b) && mle ms a b) = true ∧ p = ((a : Int), (b : Int)) := by
  unfold relp
  rw [List.mem_flatMap]
  constructor
  · rintro ⟨a, ha, h⟩
    obtain ⟨b, hb, h⟩ := List.mem_flatMap.mp h
    split at h
    · rename_i hc
      exact ⟨a, b, List.mem_range.mp ha, List.mem_range.mp hb, hc, List.mem_singleton.mp h⟩
    · cases h
  · rintro ⟨a, b, ha, hb, hc, rfl⟩
    refine ⟨a, List.mem_range.mpr ha, List.mem_flatMap.mpr ⟨b, List.mem_range.mpr hb, ?_⟩⟩
    rw [if_pos hc]
    exact List.mem_singleton.mpr rfl
theorem relp_len (ms : List Nat) : (relp ms).length ≤ ms.length * ms.length := by
  have := flat_len (f := fun a => (List.range ms.length).flatMap fun b => if (!(a == b) && mle ms a b) = true then [((a : Int), (b : Int))] else []) (k := ms.length) (xs := List.range ms.length) (fun a _ => by
    have := flat_len (f := fun b => if (!(a == b) && mle ms a b) = true then [((a : Int), (b : Int))] else []) (k := 1) (xs := List.range ms.length) (fun x _ => by split <;> simp)
    simpa using this)
  rw [List.length_range] at this
  exact this
theorem pairs_eq {ms : List Nat} (hl : ms.length ≤ 12) : m__law_pairs (nts ms) = some (relp ms) := by
  unfold m__law_pairs
  simp only [Option.bind_eq_bind, bs, nts_len]
  rw [rngM0 (by omega)]
  simp only [bs]
  have h2 : ms.length * ms.length ≤ 144 := Nat.mul_le_mul hl hl
  have h3 := relp_len ms
  have := forS_flat (body := m__law_pairs_b1 (nts ms)) (a := fun i : Nat => (i : Int)) (f := fun a => (List.range ms.length).flatMap fun b => if (!(a == b) && mle ms a b) = true then [((a : Int), (b : Int))] else []) (B := 144) (xs := List.range ms.length) (s := []) (by
    intro a ha s hs
    have ha := List.mem_range.mp ha
    unfold m__law_pairs_b1
    simp only [Option.bind_eq_bind, bs, nts_len]
    rw [rngM0 (by omega)]
    simp only [bs]
    have := forS_flat (body := m__law_pairs_b2 (a : Int) (nts ms)) (a := fun i : Nat => (i : Int)) (f := fun b => if (!(a == b) && mle ms a b) = true then [((a : Int), (b : Int))] else []) (B := 144) (xs := List.range ms.length) (s := s) (by
      intro b hb s hs
      have hb := List.mem_range.mp hb
      unfold m__law_pairs_b2
      rw [under_eq ha hb]
      have e0 : ((a : Int) == (b : Int)) = (a == b) := by
        cases e : (a == b) with
        | true => rw [beq_iff_eq] at e; rw [e]; simp
        | false => rw [beq_eq_false_iff_ne] at e ⊢; omega
      rw [e0]
      have e1 : andO (some (!(a == b))) (some (mle ms a b)) = some (!(a == b) && mle ms a b) := by cases (a == b) <;> rfl
      rw [e1]
      simp only [Option.bind_eq_bind, bs]
      cases e : (!(a == b) && mle ms a b) with
      | true =>
        simp only [cond_true, bs]
        unfold appM
        rw [sz_t (by omega)]
        simp
      | false => simp) hs
    show ((forS (m__law_pairs_b2 (a : Int) (nts ms)) (List.map (fun i : Nat => (i : Int)) (List.range ms.length)) s).bind some) = _
    rw [this]
    rfl) (by simp only [List.length_nil, Nat.zero_add]; exact Nat.le_trans h3 h2)
  show ((forS (m__law_pairs_b1 (nts ms)) (List.map (fun i : Nat => (i : Int)) (List.range ms.length)) []).bind some) = _
  rw [this]
  rfl
theorem relp_gens {ms : List Nat} (h : Masks ms) : Gens ms.length (mle ms) (relp ms) where
  rg p hp := by obtain ⟨a, b, ha, hb, _, e⟩ := relp_mem.mp hp; exact ⟨a, b, ha, hb, e⟩
  sd a b ha hb hp := by
    obtain ⟨c, d, _, _, hc, e⟩ := relp_mem.mp hp
    rw [Prod.mk.injEq] at e
    have h1 : a = c := by omega
    have h2 : b = d := by omega
    subst h1 h2
    simp only [Bool.and_eq_true] at hc
    exact hc.2
  gn S rf tr st a b ha hb hle := by
    by_cases e : a = b
    · subst e; exact rf a ha
    · exact st a b ha hb (relp_mem.mpr ⟨a, b, ha, hb, by simp [e, hle], rfl⟩)
end My

namespace My
open PySem L2 Sim PyProof.Rows
/-! ### heights -/
def slt (le : Nat → Nat → Bool) (a b : Nat) : Bool := !(a == b) && le a b
def sup : Nat → (Nat → Nat) → Nat
  | 0, _ => 0
  | n + 1, f => max (sup n f) (f n)
theorem le_sup {n : Nat} {f : Nat → Nat} {a : Nat} (h : a < n) : f a ≤ sup n f := by
  induction n with
  | zero => omega
  | succ n ih =>
    show f a ≤ max (sup n f) (f n)
    by_cases e : a = n
    · subst e; omega
    · have := ih (by omega); omega
theorem sup_at {n : Nat} {f : Nat → Nat} : sup n f = 0 ∨ ∃ a, a < n ∧ sup n f = f a := by
  induction n with
  | zero => exact .inl rfl
  | succ n ih =>
    show max (sup n f) (f n) = 0 ∨ ∃ a, a < n + 1 ∧ max (sup n f) (f n) = f a
    by_cases h : sup n f ≤ f n
    · exact .inr ⟨n, by omega, by omega⟩
    · rcases ih with h' | ⟨a, ha, h'⟩
      · omega
      · exact .inr ⟨a, by omega, by omega⟩
theorem sup_le {n : Nat} {f : Nat → Nat} {m : Nat} (h : ∀ a, a < n → f a ≤ m) : sup n f ≤ m := by
  rcases sup_at (n := n) (f := f) with e | ⟨a, ha, e⟩
  · omega
  · rw [e]; exact h a ha
theorem sup_congr {n : Nat} {f g : Nat → Nat} (h : ∀ a, a < n → f a = g a) : sup n f = sup n g := by
  induction n with
  | zero => rfl
  | succ n ih =>
    show max (sup n f) (f n) = max (sup n g) (g n)
    rw [ih (fun a ha => h a (by omega)), h n (by omega)]
structure IsH (n : Nat) (le : Nat → Nat → Bool) (h : Nat → Nat) : Prop where
  up : ∀ a b, a < n → b < n → slt le a b = true → h a + 1 ≤ h b
  at_ : ∀ b, b < n → h b = 0 ∨ ∃ a, a < n ∧ slt le a b = true ∧ h b = h a + 1
  lt : ∀ b, b < n → h b < n
def rk (n : Nat) (le : Nat → Nat → Bool) (b : Nat) : Nat := ((List.range n).filter fun a => slt le a b).length
theorem slt_tr {n : Nat} {le : Nat → Nat → Bool} (O : Ord n le) {a b c : Nat} (ha : a < n) (hb : b < n) (hc : c < n) (h1 : slt le a b = true) (h2 : slt le b c = true) : slt le a c = true := by
  unfold slt at *
  simp only [Bool.and_eq_true, Bool.not_eq_true', beq_eq_false_iff_ne] at *
  refine ⟨fun e => ?_, O.tr a b c ha hb hc h1.2 h2.2⟩
  subst e
  exact h1.1 (O.an a b ha hb h1.2 h2.2)
theorem slt_irr {le : Nat → Nat → Bool} {a : Nat} : slt le a a = false := by simp [slt]
theorem rk_lt {n : Nat} {le : Nat → Nat → Bool} (O : Ord n le) {a b : Nat} (ha : a < n) (hb : b < n) (h : slt le a b = true) : rk n le a < rk n le b :=
  filter_lt (fun x hx hxa => slt_tr O (List.mem_range.mp hx) ha hb hxa h) ⟨a, List.mem_range.mpr ha, h, slt_irr⟩
theorem rk_n {n : Nat} {le : Nat → Nat → Bool} {b : Nat} (hb : b < n) : rk n le b < n := by
  have := filter_lt (p := fun _ => true) (q := fun a => slt le a b) (xs := List.range n) (fun _ _ _ => rfl) ⟨b, List.mem_range.mpr hb, rfl, slt_irr⟩
  rw [List.filter_eq_self.mpr (fun _ _ => rfl), List.length_range] at this
  exact this
def hg (n : Nat) (le : Nat → Nat → Bool) : Nat → Nat → Nat
  | 0, _ => 0
  | k + 1, b => sup n fun a => if slt le a b = true then hg n le k a + 1 else 0
theorem hg_st {n : Nat} {le : Nat → Nat → Bool} (O : Ord n le) : ∀ m b, b < n → rk n le b ≤ m → hg n le m b = hg n le (m + 1) b
  | 0, b, hb, h => by
    show 0 = sup n _
    symm
    apply Nat.le_zero.mp
    refine sup_le fun a ha => ?_
    split
    · rename_i hs; have := rk_lt O ha hb hs; omega
    · omega
  | m + 1, b, hb, h => sup_congr fun a ha => by
    split
    · rename_i hs
      have := rk_lt O ha hb hs
      rw [hg_st O m a ha (by omega)]
    · rfl
theorem hg_rk {n : Nat} {le : Nat → Nat → Bool} (O : Ord n le) : ∀ m b, b < n → hg n le m b ≤ rk n le b
  | 0, b, _ => Nat.zero_le _
  | m + 1, b, hb => sup_le fun a ha => by
    split
    · rename_i hs
      have := rk_lt O ha hb hs
      have := hg_rk O m a ha
      omega
    · omega
def hgt (n : Nat) (le : Nat → Nat → Bool) (b : Nat) : Nat := hg n le n b
theorem hgt_is {n : Nat} {le : Nat → Nat → Bool} (O : Ord n le) : IsH n le (hgt n le) := by
  have key : ∀ b, b < n → hgt n le b = sup n fun a => if slt le a b = true then hgt n le a + 1 else 0 := fun b hb => hg_st O n b hb (Nat.le_of_lt (rk_n hb))
  refine ⟨fun a b ha hb hs => ?_, fun b hb => ?_, fun b hb => Nat.lt_of_le_of_lt (hg_rk O n b hb) (rk_n hb)⟩
  · rw [key b hb]
    have := le_sup (f := fun a => if slt le a b = true then hgt n le a + 1 else 0) ha
    simp only [hs, if_true] at this
    exact this
  · rw [key b hb]
    rcases sup_at (n := n) (f := fun a => if slt le a b = true then hgt n le a + 1 else 0) with e | ⟨a, ha, e⟩
    · exact .inl e
    · split at e
      · rename_i hs; exact .inr ⟨a, ha, hs, e⟩
      · exact .inl e
/-- the greatest has the greatest height -/
theorem sup_top {n : Nat} {le : Nat → Nat → Bool} {h : Nat → Nat} (H : IsH n le h) {t : Nat} (ht : t < n) (hm : ∀ a, a < n → le a t = true) : sup n h = h t := by
  refine Nat.le_antisymm (sup_le fun a ha => ?_) (le_sup ht)
  by_cases e : a = t
  · subst e; exact Nat.le_refl _
  · have := H.up a t ha ht (by simp [slt, e, hm a ha]); omega
/-! ### relaxing along steps -/
/-- between: what a state of the steps keeps -/
def Relax (n : Nat) (h : Nat → Nat) (s0 : Nat → Nat) (done : Nat → Nat → Prop) (s : List Int) : Prop :=
  ∃ f : Nat → Nat, s = tab n (fun i => (f i : Int)) ∧ (∀ i, i < n → s0 i ≤ f i ∧ f i ≤ h i) ∧ ∀ a b, b < n → done a b → s0 a + 1 ≤ f b
def updN (f : Nat → Nat) (b v : Nat) : Nat → Nat := fun i => if i = b then v else f i
theorem set_tab {n b : Nat} {f : Nat → Nat} {v : Nat} : (tab n fun i => (f i : Int)).set b (v : Int) = tab n fun i => ((updN f b v i : Nat) : Int) := by
  refine List.ext_getElem (by simp [tab]) fun i h1 h2 => ?_
  simp only [tab, List.length_set, List.length_map, List.length_range] at h1
  simp only [tab, List.getElem_set, List.getElem_map, List.getElem_range, updN]
  by_cases e : b = i
  · subst e; simp
  · rw [if_neg e, if_neg (fun z => e z.symm)]
theorem Relax.step {n : Nat} {le : Nat → Nat → Bool} {h s0 : Nat → Nat} (H : IsH n le h) {done : Nat → Nat → Prop} {f : Nat → Nat} {a b v : Nat} (ha : a < n) (hb : b < n) (hs : slt le a b = true) (h1 : ∀ i, i < n → s0 i ≤ f i ∧ f i ≤ h i) (h2 : ∀ a b, b < n → done a b → s0 a + 1 ≤ f b)
    (hv : v = max (f b) (f a + 1)) : Relax n h s0 (fun x y => done x y ∨ (x = a ∧ y = b)) (tab n fun i => ((updN f b v i : Nat) : Int)) := by
  have hup := H.up a b ha hb hs
  have ha' := h1 a ha
  have hb' := h1 b hb
  refine ⟨updN f b v, rfl, fun i hi => ?_, fun x y hy hd => ?_⟩
  · unfold updN
    split
    · rename_i e; subst e; omega
    · exact h1 i hi
  · unfold updN
    rcases hd with hd | ⟨rfl, rfl⟩
    · have := h2 x y hy hd
      split
      · rename_i e; subst e; omega
      · exact this
    · rw [if_pos rfl]; omega
theorem Relax.imp {n : Nat} {h s0 : Nat → Nat} {d d' : Nat → Nat → Prop} {s : List Int} (r : Relax n h s0 d s) (i : ∀ a b, b < n → d' a b → d a b) : Relax n h s0 d' s := by
  obtain ⟨f, e, h1, h2⟩ := r
  exact ⟨f, e, h1, fun a b hb hd => h2 a b hb (i a b hb hd)⟩
/-- r rounds -/
def Rnd (n : Nat) (h : Nat → Nat) (r : Nat) (s : List Int) : Prop := ∃ f : Nat → Nat, s = tab n (fun i => (f i : Int)) ∧ (∀ i, i < n → f i ≤ h i) ∧ ∀ i, i < n → h i ≤ r → f i = h i
theorem Rnd.next {n : Nat} {h s0 : Nat → Nat} {done : Nat → Nat → Prop} {r : Nat} {s : List Int} (h1 : ∀ i, i < n → s0 i ≤ h i) (h2 : ∀ i, i < n → h i ≤ r → s0 i = h i) (hd : ∀ b, b < n → h b ≠ 0 → ∃ a, a < n ∧ done a b ∧ h b = h a + 1) (R : Relax n h s0 done s) : Rnd n h (r + 1) s := by
  obtain ⟨f, e, k1, k2⟩ := R
  refine ⟨f, e, fun i hi => (k1 i hi).2, fun i hi hr => ?_⟩
  have := k1 i hi
  by_cases z : h i = 0
  · omega
  · obtain ⟨a, ha, hda, hh⟩ := hd i hi z
    have := k2 a i hi hda
    have := h2 a ha (by omega)
    omega
theorem Rnd.fin {n : Nat} {le : Nat → Nat → Bool} {h : Nat → Nat} (H : IsH n le h) {s : List Int} (R : Rnd n h n s) : s = tab n fun i => (h i : Int) := by
  obtain ⟨f, e, _, h2⟩ := R
  rw [e]
  exact tab_congr fun i hi => by rw [h2 i hi (Nat.le_of_lt (H.lt i hi))]
theorem maxL_tab : ∀ {n : Nat} {f : Nat → Nat}, 0 < n → maxL (tab n fun i => (f i : Int)) = some ((sup n f : Nat) : Int) := by
  intro n f h0
  obtain ⟨m, hm⟩ := maxL_some (xs := tab n fun i => (f i : Int)) (by intro q; have := congrArg List.length q; rw [tab_len] at this; simp at this; omega)
  obtain ⟨h1, h2⟩ := maxL_ok hm
  obtain ⟨a, ha, e⟩ := tab_mem.mp h1
  rw [hm]
  congr 1
  have := le_sup (f := f) ha
  rcases sup_at (n := n) (f := f) with e' | ⟨b, hb, e'⟩
  · omega
  · have := h2 (f b : Int) (tab_mem.mpr ⟨b, hb, rfl⟩)
    omega
theorem longest_eq {n : Nat} {le : Nat → Nat → Bool} (hn : n ≤ 12) (h0 : 0 < n) (O : Ord n le) : m_longest (tab2 n le) = some ((sup n (hgt n le) : Nat) : Int) := by
  have H := hgt_is O
  generalize hgt n le = h at H
  unfold m_longest
  rw [mapS_map (g := fun _ => (0 : Int)) (by rw [tab_len]; omega) (fun _ _ => rfl)]
  simp only [Option.bind_eq_bind, Option.bind_some]
  have e0 : List.map (fun _ => (0 : Int)) (tab2 n le) = tab n fun _ => ((0 : Nat) : Int) := by
    simp [tab]
  rw [e0]
  obtain ⟨s, e, hs⟩ := forS_keep (body := m_longest_b1 (tab2 n le)) (xs := tab2 n le) (k := 0) (I := fun k (s : List Int) => Rnd n h k s) (s := tab n fun _ => ((0 : Nat) : Int)) ⟨fun _ => 0, rfl, fun _ _ => Nat.zero_le _, fun i _ hi => by show 0 = h i; omega⟩ (by
    rintro x _ k s _ _ ⟨s0, rfl, g1, g2⟩
    unfold m_longest_b1
    simp only [tab_len, Option.bind_eq_bind, Option.bind_some]
    rw [rngM0 (by omega)]
    simp only [Option.bind_some]
    obtain ⟨s2, e2, hs2⟩ := forS_ix (body := m_longest_b2 (tab2 n le)) (a := fun i : Nat => (i : Int)) (n := n) (I := fun a s => Relax n h s0 (fun x y => x < a ∧ slt le x y = true) s) (s := tab n fun i => (s0 i : Int)) ⟨s0, rfl, fun i hi => ⟨Nat.le_refl _, g1 i hi⟩, fun a b _ hd => by omega⟩ (by
      intro a ha s hs
      unfold m_longest_b2
      simp only [tab_len, Option.bind_eq_bind, Option.bind_some]
      rw [rngM0 (by omega)]
      simp only [Option.bind_some]
      obtain ⟨s3, e3, hs3⟩ := forS_ix (body := m_longest_b3 (a : Int) (tab2 n le)) (a := fun i : Nat => (i : Int)) (n := n) (I := fun b s => Relax n h s0 (fun x y => (x < a ∨ x = a ∧ y < b) ∧ slt le x y = true) s) (s := s) (hs.imp fun x y _ ⟨h1, h2⟩ => ⟨by omega, h2⟩) (by
        rintro b hb s ⟨f, rfl, k1, k2⟩
        unfold m_longest_b3
        have q1 := atI2 (R := le) ha hb
        rw [q1]
        have eb : ((a : Int) == (b : Int)) = (a == b) := by
          cases e : (a == b) with
          | true => rw [beq_iff_eq] at e; rw [e]; simp
          | false => rw [beq_eq_false_iff_ne] at e ⊢; omega
        rw [eb]
        have ea : andO (some (!(a == b))) (some (le a b)) = some (slt le a b) := by unfold slt; cases (a == b) <;> rfl
        rw [ea]
        simp only [Option.bind_eq_bind, Option.bind_some]
        cases hsl : slt le a b with
        | false =>
          exact ⟨_, rfl, f, rfl, k1, fun x y hy hd => k2 x y hy ⟨by
            rcases hd.1 with h | ⟨rfl, h⟩
            · exact .inl h
            · by_cases z : y = b
              · subst z; rw [hsl] at hd; exact absurd hd.2 (by simp)
              · exact .inr ⟨rfl, by omega⟩, hd.2⟩⟩
        | true =>
          simp only [cond_true]
          rw [atI_tab hb, atI_tab ha]
          simp only [Option.bind_eq_bind, Option.bind_some]
          unfold setM
          rw [tab_len, ixN_nat hb]
          have ev : (if ((f a : Nat) : Int) + 1 > ((f b : Nat) : Int) then ((f a : Nat) : Int) + 1 else ((f b : Nat) : Int)) = ((max (f b) (f a + 1) : Nat) : Int) := by
            split <;> omega
          rw [ev]
          refine ⟨_, rfl, ?_⟩
          rw [set_tab]
          refine (Relax.step H ha hb hsl k1 k2 rfl).imp fun x y _ hd => ?_
          by_cases z : x = a ∧ y = b
          · exact .inr z
          · exact .inl ⟨by
              rcases hd.1 with h | ⟨rfl, h⟩
              · exact .inl h
              · exact .inr ⟨rfl, by omega⟩, hd.2⟩)
      rw [e3]
      exact ⟨s3, rfl, hs3.imp fun x y hy hd => ⟨by omega, hd.2⟩⟩)
    rw [e2]
    refine ⟨s2, rfl, Rnd.next (r := k) g1 g2 (fun b hb hz => ?_) hs2⟩
    rcases H.at_ b hb with z | ⟨a, ha, hsl, z⟩
    · exact absurd z hz
    · exact ⟨a, ha, ⟨ha, hsl⟩, z⟩)
  rw [e]
  rw [tab_len, Nat.zero_add] at hs
  rw [hs.fin H]
  simp only [Option.bind_some]
  rw [maxL_tab h0]
  rfl
theorem height_eq {n : Nat} {le : Nat → Nat → Bool} {j m : Nat → Nat → Nat} {o : m_Order} (h : IsOrd n le j m o) (L : Lat n le j m) {t : Nat} (ht : t < n) (hm : ∀ a, a < n → le a t = true) : o.f_height = ((hgt n le t : Nat) : Int) := by
  have := h.height
  rw [longest_eq L.hi L.lo L.o, sup_top (hgt_is L.o) ht hm] at this
  exact (Option.some.inj this).symm
end My

namespace My
open PySem L2 Sim PyProof.Rows
/-! ### the law's own heights -/
theorem nat_beq (a b : Nat) : ((a : Int) == (b : Int)) = (a == b) := by
  cases e : (a == b) with
  | true => rw [beq_iff_eq] at e; rw [e]; simp
  | false => rw [beq_eq_false_iff_ne] at e ⊢; omega
theorem tab_succ {α : Type} {n : Nat} {f : Nat → α} : tab (n + 1) f = tab n f ++ [f n] := by simp [tab, List.range_succ]
theorem getD_lt {ws : List Nat} (h : ws.Pairwise (· < ·)) {i k : Nat} (hik : i < k) (hk : k < ws.length) : ws.getD i 0 < ws.getD k 0 := by
  rw [List.getD_eq_getElem?_getD, List.getD_eq_getElem?_getD, List.getElem?_eq_getElem (by omega), List.getElem?_eq_getElem hk]
  exact List.pairwise_iff_getElem.mp h i k (by omega) hk hik
theorem nts_getD {ws : List Nat} {i : Nat} (h : i < ws.length) : atI (nts ws) (i : Int) = some ((ws.getD i 0 : Nat) : Int) := atI_nts h
def sub2 (x y : Nat) : Bool := (x &&& y) == x
theorem sub2_le {x y : Nat} (h : sub2 x y = true) : x ≤ y := by
  unfold sub2 at h
  rw [beq_iff_eq] at h
  have := Nat.and_le_right (n := x) (m := y)
  omega
end My

namespace My
open PySem L2 Sim PyProof.Rows
/-! ### what an order answers -/
section
variable {n : Nat} {le : Nat → Nat → Bool} {j m : Nat → Nat → Nat} {o : m_Order}
/-- the least, the greatest: folded -/
def fold0 (f : Nat → Nat → Nat) : Nat → Nat
  | 0 => 0
  | i + 1 => f (fold0 f i) i
theorem fold0_lub {f : Nat → Nat → Nat} (L : Lub n le f) (O : Ord n le) (h0 : 1 ≤ n) : ∀ i, i ≤ n → fold0 f i < n ∧ ∀ a, a < i → le a (fold0 f i) = true
  | 0, _ => ⟨by show 0 < n; omega, fun a ha => by omega⟩
  | i + 1, hi => by
    obtain ⟨h1, h2⟩ := fold0_lub L O h0 i (by omega)
    have h3 : f (fold0 f i) i < n := L.lt _ _ h1 (by omega)
    refine ⟨h3, fun a ha => ?_⟩
    show le a (f (fold0 f i) i) = true
    by_cases e : a = i
    · subst e; exact L.r _ _ h1 (by omega)
    · exact O.tr _ _ _ (by omega) h1 h3 (h2 a (by omega)) (L.l _ _ h1 (by omega))
theorem least_eq (h : IsOrd n le j m o) (L : Lat n le j m) : ∃ z : Nat, m_Order_least o = some (z : Int) ∧ z < n ∧ ∀ a, a < n → le z a = true := by
  obtain ⟨h1, h2⟩ := fold0_lub L.m L.o.op L.lo n (Nat.le_refl n)
  refine ⟨fold0 m n, ?_, h1, h2⟩
  unfold m_Order_least
  simp only [Option.bind_eq_bind, bs]
  rw [h.members]
  have := forS_tab (body := m_Order_least_b1 o) (a := fun i => (i : Int)) (S := fun i => ((fold0 m i : Nat) : Int)) (n := n) (fun i hi => by
    unfold m_Order_least_b1
    rw [h.meets]
    have h1 := atI2 (R := fun a b => some ((m a b : Nat) : Int)) (fold0_lub L.m L.o.op L.lo i (by omega)).1 hi
    rw [h1]
    rfl)
  show ((forS (m_Order_least_b1 o) (tab n fun i => (i : Int)) (((fold0 m 0 : Nat)) : Int)).bind some) = _
  rw [this]
  rfl
end
end My

namespace My
open PySem L2 Sim PyProof.Rows
/-! ### small laws for what the laws compute themselves -/
theorem ser {α β γ : Type} {f : α → γ} {g : β → γ} {a : β} : Sum.elim f g (Sum.inr a) = g a := Eq.trans (Eq.refl _) (Eq.refl _)
theorem mul_sm {a : Int} {b : Nat} (hb : b ≤ 12) : mulM a (b : Int) = some (a * (b : Int)) := by
  unfold mulM
  rw [if_pos (Or.inr (by omega))]
theorem lenM_nat {n : Nat} (h : n ≤ 1000) : lenM (n : Int) = some (n : Int) := by
  unfold lenM
  rw [show decide (0 ≤ (n : Int) ∧ (n : Int) < 2 ^ 63) = true from decide_eq_true ⟨by omega, by omega⟩]
  rfl
theorem catM_ok {α : Type} {xs ys : List α} (h : xs.length + ys.length < 100000) : catM xs ys = some (xs ++ ys) := by
  unfold catM
  rw [decide_eq_true h]
  rfl
theorem appM_ok1 {α : Type} {xs : List α} {x : α} (h : xs.length < 100000) : appM xs x = some (xs ++ [x]) := by unfold appM; rw [sz_t h]; rfl
theorem ord_len {n : Nat} {le : Nat → Nat → Bool} {j m : Nat → Nat → Nat} {o : m_Order} (h : IsOrd n le j m o) : (o.f_members.length : Int) = (n : Int) := by rw [h.members, tab_len]
theorem bot_uniq {n : Nat} {le : Nat → Nat → Bool} (O : Ord n le) {z y : Nat} (hz : z < n) (hz' : ∀ a, a < n → le z a = true) (hy : y < n) (hy' : ∀ a, a < n → le y a = true) : z = y := O.an _ _ hz hy (hz' _ hy) (hy' _ hz)
/-! ### the law's own join, meet -/
theorem bitOr_nat (x y : Nat) : Builtin.bitOr (x : Int) (y : Int) = ((x ||| y : Nat) : Int) := by
  rw [Bits.bitOr_pp (by omega) (by omega)]; simp
theorem and_or_abs (x y : Nat) : x &&& (x ||| y) = x := by
  apply Nat.eq_of_testBit_eq
  intro i
  rw [Nat.testBit_and, Nat.testBit_or]
  cases x.testBit i <;> rfl
theorem or_le {x y z : Nat} : (z &&& (x ||| y) == (x ||| y)) = ((x &&& z == x) && (y &&& z == y)) := by
  have key : z &&& (x ||| y) = x ||| y ↔ x &&& z = x ∧ y &&& z = y := by
    constructor
    · intro h
      constructor
      · have h1 := and_or_abs x y
        rw [← h, ← Nat.and_assoc] at h1
        have h2 : x &&& z &&& (x ||| y) = x &&& (x ||| y) &&& z := by rw [Nat.and_assoc, Nat.and_assoc, Nat.and_comm z]
        rw [h2, and_or_abs] at h1
        exact h1
      · have h1 := and_or_abs y x
        rw [Nat.or_comm y x, ← h, ← Nat.and_assoc] at h1
        have h2 : y &&& z &&& (x ||| y) = y &&& (y ||| x) &&& z := by rw [Nat.and_assoc, Nat.and_assoc, Nat.and_comm z, Nat.or_comm]
        rw [h2, and_or_abs] at h1
        exact h1
    · rintro ⟨h1, h2⟩
      rw [Nat.and_or_distrib_left, Nat.and_comm z x, Nat.and_comm z y, h1, h2]
  cases e : (z &&& (x ||| y) == (x ||| y)) with
  | true =>
    rw [beq_iff_eq] at e
    obtain ⟨h1, h2⟩ := key.mp e
    rw [h1, h2]; simp
  | false =>
    rw [beq_eq_false_iff_ne] at e
    cases e2 : ((x &&& z == x) && (y &&& z == y)) with
    | false => rfl
    | true =>
      rw [Bool.and_eq_true, beq_iff_eq, beq_iff_eq] at e2
      exact absurd (key.mpr e2) e
theorem idx_val {ms : List Nat} {x : Nat} (nd : ms.Nodup) (hx : x ∈ ms) : idxM (fun a b => a == b) (nts ms) (x : Int) = some ((ms.idxOf x : Nat) : Int) := by
  obtain ⟨h1, h2⟩ := getD_idx hx
  have := idx_nts nd h1
  rw [h2] at this
  exact this
section
variable {ms : List Nat}
theorem top_of (h : Masks ms) : ∀ a, a < ms.length → mle ms a (ms.idxOf 31) = true := fun a ha => by
  obtain ⟨ht, ht31⟩ := getD_idx h.top
  unfold mle
  rw [ht31, beq_iff_eq]
  have := h.lt _ (getD_mem ha)
  have h2 : ms.getD a 0 % 2 ^ 5 = ms.getD a 0 := Nat.mod_eq_of_lt this
  rw [← Nat.and_two_pow_sub_one_eq_mod] at h2
  exact h2
theorem min_of (h : Masks ms) (hl : ms.length ≤ 12) : ∃ z, z < ms.length ∧ (∀ a, a < ms.length → mle ms z a = true) ∧ (minL (nts ms) >>= fun t => idxM (fun a b => a == b) (nts ms) t) = some (z : Int) := by
  have L := mLat h hl
  obtain ⟨h1, h2⟩ := fold0_lub L.m L.o.op L.lo ms.length (Nat.le_refl _)
  refine ⟨fold0 (mmeet ms) ms.length, h1, h2, ?_⟩
  have : minL (nts ms) = some ((ms.getD (fold0 (mmeet ms) ms.length) 0 : Nat) : Int) := by
    refine minL_of (mem_nts.mpr (getD_mem h1)) fun y hy => ?_
    unfold nts at hy
    obtain ⟨k, hk, rfl⟩ := List.mem_map.mp hy
    obtain ⟨g1, g2⟩ := getD_idx hk
    have := h2 _ g1
    unfold mle at this
    rw [beq_iff_eq, g2] at this
    have h3 := Nat.and_le_right (n := ms.getD (fold0 (mmeet ms) ms.length) 0) (m := k)
    rw [this] at h3
    omega
  rw [this]
  exact idx_nts h.nd h1
theorem top_idx (h : Masks ms) : idxM (fun a b => a == b) (nts ms) (31 : Int) = some ((ms.idxOf 31 : Nat) : Int) := idx_val (x := 31) h.nd h.top
end
end My

namespace My
open PySem L2 Sim PyProof.Rows
theorem contains_eq {n : Nat} {le : Nat → Nat → Bool} {j m : Nat → Nat → Nat} {o : m_Order} (h : IsOrd n le j m o) (v : Int) : m_Order___contains__ o v = some (decide (0 ≤ v) && decide (v < (n : Int))) := by
  unfold m_Order___contains__
  rw [h.members, tab_len]
  simp only [Option.bind_eq_bind, bs, andO]
  cases decide (0 ≤ v) <;> rfl
theorem forL_keep {α σ ρ : Type} {body : α → σ → Option (Stp σ ρ)} {I : Nat → σ → Prop} : ∀ {xs : List α} {k : Nat} {s : σ}, I k s → (∀ x ∈ xs, ∀ j s, k ≤ j → j < k + xs.length → I j s → ∃ s', body x s = some (.nx s') ∧ I (j + 1) s') →
    ∃ s', forL body xs s = some (.inl s') ∧ I (k + xs.length) s'
  | [], k, s, h, _ => ⟨s, rfl, h⟩
  | x :: xs, k, s, h, hs => by
    obtain ⟨s1, e1, h1⟩ := hs x (List.mem_cons_self ..) k s (Nat.le_refl _) (by simp) h
    obtain ⟨s2, e2, h2⟩ := forL_keep (xs := xs) (k := k + 1) h1 fun y hy j t hj hj' => hs y (List.mem_cons_of_mem _ hy) j t (by omega) (by simp; omega)
    refine ⟨s2, ?_, ?_⟩
    · show (body x s >>= stpK (forL body xs)) = _
      rw [e1]; exact e2
    · have : k + (x :: xs).length = k + 1 + xs.length := by simp; omega
      rw [this]; exact h2
theorem appK {α : Type} {xs : List α} {x : α} (h : xs.length < 100000) : appM xs x = some (xs ++ [x]) := by unfold appM; rw [sz_t h]; rfl
def side (nm : Str) : PyData := .tuple [.str ("side" : Str), .str nm]
def elem (v : Int) : PyData := .tuple [.str ("element" : Str), .int v]
def told (v : Int) : PyData := .tuple [.str ("told" : Str), .int v]
theorem eqv_side (nm : Str) : PyData.eqv (side nm) (side nm) = true := by simp [side, PyData.eqv, PyData.eqvAll]
theorem eqv_elem (v : Int) : PyData.eqv (elem v) (elem v) = true := by simp [elem, PyData.eqv, PyData.eqvAll]
theorem eqv_told (v : Int) : PyData.eqv (told v) (told v) = true := by simp [told, PyData.eqv, PyData.eqvAll]
theorem ix0_told (v : Int) : ixD (told v) 0 = some (.str ("told" : Str)) := rfl
theorem ix1_told (v : Int) : ixD (told v) 1 = some (.int v) := rfl
theorem ix0_side (nm : Str) : ixD (side nm) 0 = some (.str ("side" : Str)) := rfl
theorem ix0_elem (v : Int) : ixD (elem v) 0 = some (.str ("element" : Str)) := rfl
theorem eqv_tt : PyData.eqv (.str ("told" : Str)) (.str ("told" : Str)) = true := by simp [PyData.eqv]
theorem eqv_st : PyData.eqv (.str ("side" : Str)) (.str ("told" : Str)) = false := by decide +kernel
theorem eqv_et : PyData.eqv (.str ("element" : Str)) (.str ("told" : Str)) = false := by decide +kernel
theorem find_eq (own : List (Str × Int)) (nm : Str) : m__law_found own nm = some (lookM own nm) := by
  unfold m__law_found
  simp only [Option.bind_eq_bind, bs]
  have := forL_find (body := m__law_found_b1 nm) (a := fun q : Str × Int => q) (p := fun q => decide (q.1 = nm)) (g := fun q => some q.2) (xs := own) (fun q _ => by
    unfold m__law_found_b1
    simp only [Option.bind_eq_bind, bs]
    cases decide (q.1 = nm) <;> rfl)
  rw [List.map_id'] at this
  rw [this]
  unfold lookM
  cases own.find? fun q => decide (q.1 = nm) <;> rfl
theorem call_eq {look : List (Str × Int) → Str → Option (Xn ⊕ Int)} (ys : List (Str × Int)) (nm : Str) : m_call look ys nm = match lookM ys nm with
    | some v => some (Sum.inr v, ys)
    | none => look ys nm >>= fun r => Sum.elim (fun e => some (Sum.inl e, ys)) (fun v => appM ys (nm, v) >>= fun a => some (Sum.inr v, a)) r := by
  unfold m_call
  have := forL_find (body := m_call_b1 nm) (a := fun q : Str × Int => q) (p := fun q => decide (q.1 = nm)) (g := fun q => q.2) (xs := ys) (fun q _ => by
    unfold m_call_b1
    simp only [Option.bind_eq_bind, bs]
    cases decide (q.1 = nm) <;> rfl)
  rw [List.map_id'] at this
  rw [this]
  unfold lookM
  cases ys.find? fun q => decide (q.1 = nm) <;> rfl
theorem listed_eq {ys : List (Str × Int)} (h : ys.length < 100000) : m__law_listed ys ys = some true := by
  unfold m__law_listed
  simp only [Option.bind_eq_bind, bs, decide_true, Bool.not_true, Bool.or_self, cfa]
  rw [mapS_map (xs := ys) (g := fun _ => true) h (fun _ _ => rfl)]
  simp only [bs]
  congr 1
  rw [List.all_eq_true]
  intro x hx
  obtain ⟨_, _, rfl⟩ := List.mem_map.mp hx
  rfl
abbrev noS (nm : Str) : Xn := ⟨"NoSide", [("name", .str nm)]⟩
abbrev noE (v : Int) : Xn := ⟨"NotElement", [("value", .int v)]⟩
/-- a look raises or tells, as the law says -/
inductive Lk (f : List (Str × Int) → Str → Option (Xn ⊕ Int)) (nm : Str) : PyData → Prop
  | side (h : ∀ ys, f ys nm = some (.inl (noS nm))) : Lk f nm (side nm)
  | elem (v : Int) (h : ∀ ys, f ys nm = some (.inl (noE v))) : Lk f nm (elem v)
  | told (v : Int) (h : ∀ ys, f ys nm = some (.inr v)) : Lk f nm (told v)
theorem Lk.eqv {f : List (Str × Int) → Str → Option (Xn ⊕ Int)} {nm : Str} {d : PyData} (h : Lk f nm d) : PyData.eqv d d = true := by
  cases h
  · exact eqv_side _
  · exact eqv_elem _
  · exact eqv_told _
section
variable {n z : Nat} {le : Nat → Nat → Bool} {j m : Nat → Nat → Nat} {o : m_Order} {nz : List Int}
theorem look_val (h : IsOrd n le j m o) (ez : m_Order_least o = some (z : Int)) (tb : List (Str × Int)) (al : Option (List Str)) (nm : Str) (hal : (andO (some al.isSome) (al >>= fun al => some (!al.any fun z => z == nm))) = some false) (ys : List (Str × Int)) :
    m_TableAsker_look (o, tb, al) ys nm = some (bif (decide (((lookM tb nm).getD (z : Int)) < 0) || decide ((n : Int) ≤ (lookM tb nm).getD (z : Int))) then .inl (noE ((lookM tb nm).getD (z : Int))) else .inr ((lookM tb nm).getD (z : Int))) := by
  unfold m_TableAsker_look
  show ((andO (some al.isSome) (al >>= fun al => some (!al.any fun z => z == nm))) >>= _) = _
  rw [hal]
  simp only [Option.bind_eq_bind, bs, cfa]
  show (((m_Order_least o).bind _).bind _) = _
  rw [ez]
  simp only [bs]
  show ((m_Order___contains__ o _).bind _).bind _ = _
  rw [contains_eq h]
  simp only [bs]
  generalize (lookM tb nm).getD (z : Int) = v
  by_cases h1 : 0 ≤ v
  · by_cases h2 : v < (n : Int)
    · rw [decide_eq_true h1, decide_eq_true h2, decide_eq_false (show ¬ v < 0 by omega), decide_eq_false (show ¬ (n : Int) ≤ v by omega)]; rfl
    · rw [decide_eq_true h1, decide_eq_false h2, decide_eq_false (show ¬ v < 0 by omega), decide_eq_true (show (n : Int) ≤ v by omega)]; rfl
  · rw [decide_eq_false h1, decide_eq_true (show v < 0 by omega)]; rfl
theorem andO_any (al : Option (List Str)) (nm : Str) : ∃ b, (andO (some al.isSome) (al >>= fun al => some (!al.any fun z => z == nm))) = some b := by
  cases al with
  | none => exact ⟨_, rfl⟩
  | some a => exact ⟨_, rfl⟩
theorem looked_eq (h : IsOrd n le j m o) (ez : m_Order_least o = some (z : Int)) (hn : nz.length = n) (em : (minL nz >>= fun t => idxM (fun a b => a == b) nz t) = some (z : Int)) (tb : List (Str × Int)) (al : Option (List Str)) (nm : Str) :
    ∃ d, m__law_looked tb al nm nz = some d ∧ Lk (m_TableAsker_look (o, tb, al)) nm d := by
  unfold m__law_looked
  obtain ⟨b, hb⟩ := andO_any al nm
  rw [hb]
  cases b with
  | true =>
    simp only [Option.bind_eq_bind, bs, ctr]
    refine ⟨_, rfl, .side fun ys => ?_⟩
    unfold m_TableAsker_look
    show ((andO (some al.isSome) (al >>= fun al => some (!al.any fun z => z == nm))) >>= _) = _
    rw [hb]
    rfl
  | false =>
    have hv := look_val h ez tb al nm hb
    simp only [Option.bind_eq_bind] at em
    simp only [Option.bind_eq_bind, bs, cfa, em]
    rw [hn]
    revert hv
    generalize (lookM tb nm).getD (z : Int) = v
    intro hv
    cases hc : (decide (v < 0) || decide ((n : Int) ≤ v)) with
    | true =>
      rw [hc] at hv
      exact ⟨_, rfl, .elem v hv⟩
    | false =>
      rw [hc] at hv
      exact ⟨_, rfl, .told v hv⟩
end
theorem ans_of {A : m_TableAsker} {nm : Str} {d : Bool} {ys zs : List (Str × Int)} {r : Xn ⊕ Int} (h : (bif d then (m_TableAsker_look A ys nm >>= fun r => some (r, ys)) else m_call (m_TableAsker_look A) ys nm) = some (r, zs)) : m__law_table_answer A nm d ys = (some (r, zs) >>= fun p => Sum.elim (fun e => (bif (["NoSide"] : List Str).contains e.cls then (xS e "name" >>= fun nm => some ((PyData.tuple [PyData.str ("side" : Str), PyData.str nm], (none : Option Int)), p.2)) else (bif (["NotElement"] : List Str).contains e.cls then (xI e "value" >>= fun nm => some ((PyData.tuple [PyData.str ("element" : Str), PyData.int nm], (none : Option Int)), p.2)) else none))) (fun v => some ((PyData.none, some v), p.2)) p.1) >>= fun s =>
  ((andO (some (noneD s.1.1)) (s.1.2 >>= fun v => m__law_int v)) >>= fun b => bif b then (s.1.2 >>= fun v => some (PyData.tuple [PyData.str ("told" : Str), PyData.int v])) else some s.1.1) >>= fun d => some (d, s.2) := by
  unfold m__law_table_answer
  rw [h]
theorem ans_direct {A : m_TableAsker} {nm : Str} {d : PyData} (own : List (Str × Int)) (h : Lk (m_TableAsker_look A) nm d) : m__law_table_answer A nm true own = some (d, own) := by
  cases h with
  | side h => rw [ans_of (r := .inl (noS nm)) (zs := own) (by rw [ctr, h]; rfl)]; rfl
  | elem v h => rw [ans_of (r := .inl (noE v)) (zs := own) (by rw [ctr, h]; rfl)]; rfl
  | told v h => rw [ans_of (r := .inr v) (zs := own) (by rw [ctr, h]; rfl)]; rfl
/-- what is due, and what stands there behind it -/
def nextO (d : PyData) (own : List (Str × Int)) (nm : Str) : PyData × List (Str × Int) := match lookM own nm with
  | some v => (told v, own)
  | none => match d with
    | .tuple [.str _, .int v] => bif PyData.eqv (ixD d 0 |>.getD .none) (.str ("told" : Str)) then (d, own ++ [(nm, v)]) else (d, own)
    | _ => (d, own)
theorem next_told (own : List (Str × Int)) (nm : Str) (v : Int) (e : lookM own nm = none) : nextO (told v) own nm = (told v, own ++ [(nm, v)]) := by
  unfold nextO
  rw [e]
  show (bif PyData.eqv (.str ("told" : Str)) (.str ("told" : Str)) then _ else _) = _
  rw [eqv_tt]
  rfl
theorem next_side (own : List (Str × Int)) (nm : Str) (e : lookM own nm = none) : nextO (side nm) own nm = (side nm, own) := by
  unfold nextO
  rw [e]
  rfl
theorem next_elem (own : List (Str × Int)) (nm : Str) (v : Int) (e : lookM own nm = none) : nextO (elem v) own nm = (elem v, own) := by
  unfold nextO
  rw [e]
  show (bif PyData.eqv (.str ("element" : Str)) (.str ("told" : Str)) then _ else _) = _
  rw [eqv_et]
  rfl
theorem ans_call {A : m_TableAsker} {nm : Str} {d : PyData} {own : List (Str × Int)} (hl : own.length < 1000) (h : Lk (m_TableAsker_look A) nm d) : m__law_table_answer A nm false own = some (nextO d own nm) := by
  cases e : lookM own nm with
  | some v =>
    have : nextO d own nm = (told v, own) := by unfold nextO; rw [e]
    rw [this, ans_of (r := .inr v) (zs := own) (by rw [cfa, call_eq, e])]; rfl
  | none =>
    cases h with
    | side h => rw [next_side _ _ e, ans_of (r := .inl (noS nm)) (zs := own) (by rw [cfa, call_eq, e, h]; rfl)]; rfl
    | elem v h => rw [next_elem _ _ _ e, ans_of (r := .inl (noE v)) (zs := own) (by rw [cfa, call_eq, e, h]; rfl)]; rfl
    | told v h =>
      rw [next_told _ _ _ e, ans_of (r := .inr v) (zs := own ++ [(nm, v)]) (by
        rw [cfa, call_eq, e, h]
        show (appM own (nm, v) >>= fun a => some (Sum.inr v, a)) = _
        rw [appK (by omega)]
        rfl)]
      rfl
/-- what the law does with what is due -/
theorem due_step {f : List (Str × Int) → Str → Option (Xn ⊕ Int)} {nm : Str} {d : PyData} {own : List (Str × Int)} (hl : own.length < 1000) (h : Lk f nm d) :
    ((some (lookM own nm).isSome).bind fun b => bif b then (some (PyData.tuple [PyData.str ("told" : Str), (dO PyData.int) (lookM own nm)])).bind fun due => some (due, own) else ((((ixD d 0).bind fun t => some (PyData.eqv t (PyData.str ("told" : Str)))).bind fun b => bif b then ((((ixD d 1).bind fun t => intD t).bind fun t => some (nm, t)).bind fun a => (appM own a).bind fun own => some own) else some own).bind fun s => some (d, s))) = some (nextO d own nm) := by
  cases e : lookM own nm with
  | some v =>
    unfold nextO
    rw [e]
    rfl
  | none =>
    cases h with
    | side h => rw [next_side _ _ e, ix0_side]; simp only [bs, isn, cfa, eqv_st]
    | elem v h => rw [next_elem _ _ _ e, ix0_elem]; simp only [bs, isn, cfa, eqv_et]
    | told v h =>
      rw [next_told _ _ _ e, ix0_told, ix1_told]
      simp only [bs, isn, cfa, eqv_tt, ctr, Sim.intD]
      rw [appK (by omega)]
      rfl
theorem next_len (d : PyData) (own : List (Str × Int)) (nm : Str) : (nextO d own nm).2.length ≤ own.length + 1 := by
  unfold nextO
  split
  · exact Nat.le_succ _
  · split
    · cases PyData.eqv ((ixD _ 0).getD .none) (.str ("told" : Str)) <;> simp
    · exact Nat.le_succ _
theorem next_eqv {f : List (Str × Int) → Str → Option (Xn ⊕ Int)} {nm : Str} {d : PyData} (own : List (Str × Int)) (h : Lk f nm d) : PyData.eqv (nextO d own nm).1 (nextO d own nm).1 = true := by
  cases e : lookM own nm with
  | some v => unfold nextO; rw [e]; exact eqv_told v
  | none =>
    cases h with
    | side h => rw [next_side _ _ e]; exact eqv_side _
    | elem v h => rw [next_elem _ _ _ e]; exact eqv_elem _
    | told v h => rw [next_told _ _ _ e]; exact eqv_told _
/-- the second asker: an empty table -/
def plainN (z : Nat) (own : List (Str × Int)) (nm : Str) : List (Str × Int) := match lookM own nm with
  | some _ => own
  | none => own ++ [(nm, (z : Int))]
def PlainOk (z : Nat) (own : List (Str × Int)) : Prop := ∀ q ∈ own, q.2 = (z : Int)
theorem plain_ok {z : Nat} {own : List (Str × Int)} (h : PlainOk z own) (nm : Str) : PlainOk z (plainN z own nm) := by
  unfold plainN
  split
  · exact h
  · intro q hq
    rcases List.mem_append.mp hq with hq | hq
    · exact h q hq
    · rw [List.mem_singleton.mp hq]
theorem plain_len (z : Nat) (own : List (Str × Int)) (nm : Str) : (plainN z own nm).length ≤ own.length + 1 := by
  unfold plainN
  split <;> simp
theorem plain_next {z : Nat} {own : List (Str × Int)} (h : PlainOk z own) (nm : Str) : nextO (told (z : Int)) own nm = (told (z : Int), plainN z own nm) := by
  unfold plainN
  cases e : lookM own nm with
  | some v =>
    have := h _ (look_mem e)
    have : v = (z : Int) := this
    unfold nextO
    rw [e, this]
  | none => rw [next_told _ _ _ e]
theorem plain_step {z : Nat} {own : List (Str × Int)} (hl : own.length < 1000) (nm : Str) : ((some (lookM own nm).isNone).bind fun b => bif b then (some (nm, (z : Int))).bind fun a => (appM own a).bind fun p => some p else some own) = some (plainN z own nm) := by
  unfold plainN
  cases e : lookM own nm with
  | some v => rfl
  | none =>
    simp only [Option.isNone_none, bs, ctr]
    rw [appK (by omega)]
    rfl
abbrev S13 := List (Str × Int) × (List (Str × Int) × (List Str × (List (Str × Int) × (List (Str × Int) × (List (Str × Int) × List Int)))))
def Inv13 (z k : Nat) (s : S13) : Prop := s.1 = s.2.2.2.2.1 ∧ s.2.2.2.1 = s.2.2.2.2.2.1 ∧ s.2.2.2.2.1.length ≤ k ∧ s.2.2.2.2.2.1.length ≤ k ∧ PlainOk z s.2.2.2.2.2.1
theorem turn {n z : Nat} {le : Nat → Nat → Bool} {j m : Nat → Nat → Nat} {o : m_Order} {nz q0 : List Int} {ns : List Str} {tb : List (Str × Int)} {p0 : List Int} {al : Option (List Str)} {A : m_TableAsker} {w1 : List (Str × Int)} {w2 : List Str} {p1 : List Int} {x : Int} {k : Nat} {s : S13}
    (h : IsOrd n le j m o) (ez : m_Order_least o = some (z : Int)) (hz : z < n) (hnz : nz.length = n) (em : (minL nz >>= fun t => idxM (fun a b => a == b) nz t) = some (z : Int)) (hA : A = (o, tb, al)) (hn : 0 < ns.length) (hk : k < 100) (I : Inv13 z k s) :
    ∃ s', m_law_b2 ns (tb, p0) (al, A, w1, w2, p1) (nz, q0) (o, [], none) x s = some (.nx s') ∧ Inv13 z (k + 1) s' := by
  subst hA
  obtain ⟨asks, handed, lh, asksO, own, plain, pot⟩ := s
  obtain ⟨h1, h2, h3, h4, h5⟩ := I
  replace h1 : own = asks := h1.symm
  replace h2 : plain = asksO := h2.symm
  replace h3 : own.length ≤ k := h3
  replace h4 : plain.length ≤ k := h4
  replace h5 : PlainOk z plain := h5
  subst h1 h2
  unfold m_law_b2
  simp only [Option.bind_eq_bind] at em
  simp only [Option.bind_eq_bind, bs]
  obtain ⟨a, p1, e, ha⟩ := draw_eq pot (n := ns.length) hn
  rw [e]
  simp only [bs]
  rw [atI_nat ha]
  simp only [bs]
  have e1 : ∃ hd : List (Str × Int) × List Str, (bif (x == 2) then some (([] : List (Str × Int)), ([] : List Str)) else some (handed, lh)) = some hd := by cases (x == 2) <;> exact ⟨_, rfl⟩
  obtain ⟨hd, e1⟩ := e1
  rw [e1]
  simp only [bs]
  obtain ⟨d, ed, hd⟩ := looked_eq h ez hnz (by simp only [Option.bind_eq_bind]; exact em) tb al ns[a]
  rw [ed]
  simp only [bs]
  obtain ⟨t, p2, e, ht⟩ := draw_lit p1 3 (by decide) (z := 3) rfl
  rw [e]
  simp only [bs]
  have lo : Lk (m_TableAsker_look (o, [], none)) ns[a] (told (z : Int)) := .told _ fun ys => by
    rw [look_val h ez [] none ns[a] rfl ys]
    show some (bif (decide ((z : Int) < 0) || decide ((n : Int) ≤ (z : Int))) then _ else Sum.inr (z : Int)) = _
    rw [decide_eq_false (show ¬ (z : Int) < 0 by omega), decide_eq_false (show ¬ (n : Int) ≤ (z : Int) by omega)]
    rfl
  have q1 := next_len d own ns[a]
  have q2 := plain_len z plain ns[a]
  have ds := due_step (own := own) (by omega) hd
  have ps := plain_step (z := z) (own := plain) (by omega) ns[a]
  simp only [bs] at ds ps
  have fin : ∀ v : Bool, ∃ s' : S13, some (Stp.nx ((nextO d own ns[a]).2, (v, v).1 |> fun _ => s'.2)) = some (Stp.nx (ρ := Bool) ((nextO d own ns[a]).2, s'.2)) := fun _ => ⟨(own, handed, lh, plain, own, plain, pot), rfl⟩
  cases hb : ((t : Int) == 1)
  case' true => 
    simp only [ctr]
    rw [ans_direct own hd]
    simp only [bs, hd.eqv, Bool.not_true, cfa]
    rw [listed_eq (by omega)]
    simp only [bs, Bool.not_true, cfa]
  case' false =>
    simp only [cfa]
  all_goals
    rw [find_eq]
    simp only [bs]
    rw [ds]
    simp only [bs]
    rw [ans_call (by omega) hd]
    simp only [bs, next_eqv own hd, Bool.not_true, cfa]
    rw [listed_eq (by omega)]
    simp only [bs, Bool.not_true, cfa]
    rw [find_eq, em]
    simp only [bs]
    rw [ps]
    simp only [bs]
    rw [ans_call (by omega) lo, plain_next h5]
    simp only [bs]
    rw [show PyData.eqv (told (z : Int)) (PyData.tuple [PyData.str ("told" : Str), PyData.int (z : Int)]) = true from eqv_told _]
    simp only [Bool.not_true, cfa]
    rw [listed_eq (by omega)]
    simp only [bs, Bool.not_true, cfa]
    exact ⟨_, rfl, rfl, rfl, by show (nextO d own ns[a]).2.length ≤ k + 1; omega, by show (plainN z plain ns[a]).length ≤ k + 1; omega, plain_ok h5 _⟩
theorem cat_ok {α : Type} {xs ys : List α} (h : xs.length + ys.length < 100000) : catM xs ys = some (xs ++ ys) := by unfold catM; rw [decide_eq_true h]; rfl
theorem spoilt_eq {n : Nat} (pot : List Int) (hn : 0 < n) {ns : List Str} (hs : ns.length ≤ 100) : ∃ d pot', m__law_spoilt_table pot ns (n : Int) = some (d, pot') := by
  unfold m__law_spoilt_table
  simp only [Option.bind_eq_bind, bs]
  obtain ⟨s, e, h⟩ := forS_keep (body := m__law_spoilt_table_b1 (n : Int)) (xs := ns) (k := 0) (I := fun j s => s.2.length ≤ j) (s := (pot, [])) (Nat.le_refl _) (fun x _ j s _ hj hs => by
    unfold m__law_spoilt_table_b1
    simp only [Option.bind_eq_bind, bs]
    obtain ⟨v, p1, e, hv⟩ := draw_lit s.1 5 (by decide) (z := 5) rfl
    rw [e]
    simp only [bs]
    have pl : ∀ y : Int, (putM s.2 x y).length ≤ j + 1 := fun y => Nat.le_trans put_len (by omega)
    cases hb : ((v : Int) == 2) with
    | true =>
      obtain ⟨a, p2, e, ha⟩ := draw_lit p1 4 (by decide) (z := 4) rfl
      have e0 : powM 10 17 = some (10 ^ 17) := by rfl
      simp only [ctr, bs, e, e0]
      have : ∃ y, atI [(n : Int), (n : Int) + 2, 10 ^ 17, -1] (a : Int) = some y := ⟨_, atI_nat (xs := [(n : Int), (n : Int) + 2, 10 ^ 17, -1]) ha⟩
      obtain ⟨y, ey⟩ := this
      rw [ey]
      simp only [bs]
      rw [putMM_ok (by omega)]
      exact ⟨_, rfl, pl y⟩
    | false =>
      simp only [cfa]
      cases hb2 : !((v : Int) == 1) with
      | true =>
        obtain ⟨a, p2, e, ha⟩ := draw_eq p1 hn
        simp only [ctr, bs, e]
        rw [putMM_ok (by omega)]
        exact ⟨_, rfl, pl _⟩
      | false =>
        simp only [cfa, bs]
        exact ⟨_, rfl, by show s.2.length ≤ j + 1; omega⟩)
  rw [e]
  exact ⟨_, _, rfl⟩
theorem law_true (sc : List Int) : m_law sc = some true := by
  obtain ⟨pot, e⟩ := pot_eq sc
  unfold m_law
  rw [e]
  simp only [Option.bind_eq_bind, bs]
  obtain ⟨ms, p1, e, hM, hl⟩ := masks_eq pot (most := 6) (by decide)
  have e : m__law_masks pot 6 = some (nts ms, p1) := e
  rw [e]
  simp only [bs, nts_len]
  rw [pairs_eq (ms := ms) (by omega)]
  simp only [bs]
  have L := mLat hM (by omega)
  have hn := L.lo
  obtain ⟨o, e, hO⟩ := Order_init_eq L (relp_gens hM)
  rw [e]
  simp only [bs]
  obtain ⟨z, hz, hz', em⟩ := min_of hM (by omega)
  obtain ⟨z2, ez, hz2, hz2'⟩ := least_eq hO L
  have := bot_uniq L.o hz hz' hz2 hz2'
  subst this
  obtain ⟨v, p2, e, hv⟩ := draw_lit p1 5 (by decide) (z := 5) rfl
  rw [e]
  simp only [bs]
  rw [show (1 : Int) + (v : Int) = ((1 + v : Nat) : Int) by omega]
  obtain ⟨ns, p3, e, nd, hs⟩ := names_eq p2 (many := 1 + v) (by omega)
  rw [e]
  simp only [bs]
  obtain ⟨tb, p4, e⟩ := spoilt_eq p3 hn (ns := ns) (by omega)
  rw [e]
  simp only [bs]
  have eT : ∀ t al, m_TableAsker___init__ o t al = some (o, t, al) := fun _ _ => rfl
  simp only [eT, bs]
  obtain ⟨a, p5, e, ha⟩ := draw_lit p4 3 (by decide) (z := 3) rfl
  rw [e]
  simp only [bs]
  rw [cat_ok (by simp only [List.length_singleton]; omega)]
  simp only [bs]
  have join : ∃ al A w1 w2 pp, (bif !((a : Int) == 0) then (forS m_law_b1 (ns ++ [("stranger10" : Str)]) (p5, [])).bind fun s => some ((some s.2 : Option (List Str)), (((o, tb, some s.2) : m_TableAsker), (([] : List (Str × Int)), (s.2, s.1)))) else some ((none : Option (List Str)), (((o, tb, none) : m_TableAsker), (([] : List (Str × Int)), (([] : List Str), p5))))) = some (al, (A, (w1, (w2, pp)))) ∧ A = (o, tb, al) ∧ w1 = [] := by
    cases !((a : Int) == 0) with
    | false => exact ⟨_, _, _, _, _, rfl, rfl, rfl⟩
    | true =>
      rw [ctr]
      obtain ⟨s, e, _⟩ := forS_keep (body := m_law_b1) (xs := ns ++ [("stranger10" : Str)]) (k := 0) (I := fun j s => s.2.length ≤ j) (s := (p5, [])) (Nat.le_refl _) (fun x _ j s _ hj hs => by
        rw [List.length_append, List.length_singleton] at hj
        unfold m_law_b1
        simp only [Option.bind_eq_bind, bs]
        obtain ⟨v, p1, e, hv⟩ := draw_lit s.1 4 (by decide) (z := 4) rfl
        rw [e]
        simp only [bs]
        cases !((v : Int) == 1) with
        | true =>
          simp only [ctr]
          rw [appK (by omega)]
          exact ⟨_, rfl, by show (s.2 ++ [x]).length ≤ j + 1; rw [List.length_append, List.length_singleton]; omega⟩
        | false => exact ⟨_, rfl, by show s.2.length ≤ j + 1; omega⟩)
      rw [e]
      exact ⟨_, _, _, _, _, rfl, rfl, rfl⟩
  obtain ⟨al, A, w1, w2, pp, ej, hA, hw⟩ := join
  rw [ej]
  simp only [bs]
  obtain ⟨t, p6, e, ht⟩ := draw_lit pp 9 (by decide) (z := 9) rfl
  rw [e]
  simp only [bs]
  rw [show (1 : Int) + (t : Int) = ((1 + t : Nat) : Int) by omega, rngM0 (by omega)]
  simp only [bs]
  obtain ⟨s2, e, _⟩ := forL_keep (body := m_law_b2 (ns ++ [("stranger10" : Str)]) (tb, p4) (al, A, w1, w2, pp) (nts ms, p1) (o, [], none)) (xs := tab (1 + t) fun i => (i : Int)) (k := 0) (I := Inv13 z) (s := (w1, (tb, (w2, ([], ([], ([], p6))))))) ⟨hw, rfl, Nat.le_refl _, Nat.le_refl _, fun q hq => by cases hq⟩ (fun x _ j s _ hj hs' => by
    rw [tab_len] at hj
    exact turn hO ez hz nts_len em hA (by rw [List.length_append]; omega) (by omega) hs')
  rw [e]
  simp only [bs, sel]
  rw [hA]
  have eo : m_Order___eq__ o o = some true := by
    unfold m_Order___eq__
    simp
  show ((m_Order___eq__ o o).bind _).bind _ = _
  rw [eo]
  rfl
end My

set_option maxHeartbeats 0
namespace My
open PySem PySem.Spec PyProof.Rows L2 Sim
abbrev Rw1 : PySem.W.OpenRow := PySem.W.OpenLaw.row PySem.Challenge.rw_askedpoints_k13_table_askers
abbrev hk : PySem.W.Hook := hookZ 5 fa fn ex xs gs sp P.main.file
def ob (s : PySem.W.SharedT) : AlZ := obsZG 5 fa fn ex xs gs sp P.main.file (HandSHeadRun.getT s)
theorem ob_eq (s : PySem.W.SharedT) : ob s = hk.obs s.abs := obsZG_eq (HandSHeadRun.getT_eq s)
def loose0 : List PySem.Str := ["_wall", "AskedError", "BadSize", "NotElement", "Ring", "NoJoin", "NoMeet", "Unanswered", "NoSide", "Asker", "TableAsker", "closure", "turned", "least_above", "bounds_table"]
def loose1 : List PySem.Str := ["first_ring", "first_lack", "longest", "neighbours", "Order", "_law_pot", "_law_draw", "_law_int", "_law_masks", "_law_under", "_law_pairs", "_law_names", "_law_spoilt_table", "_law_looked", "_law_table_answer"]
def loose2 : List PySem.Str := ["_law_found", "_law_listed"]
def loose : List PySem.Str := loose0 ++ (loose1 ++ (loose2))
theorem run (w : World) : HandSHeadRun.RunEq Rw1 (PySem.W.view Rw1.prog [37]) hk ob 9000 loose w := by
  intro os
  kernel_rfl
theorem glo_law (K : PySem.W.Frag) (mg : Str → Option Value) (T : Tx K mg) : mg "law" = some (.ref (He.ga K "law")) := T.glo 32 rfl
end My
open PySem PySem.W PySem.Calls PyProof.Rows
theorem PySem.Challenge.cw_askedpoints_k13_table_askers_holds : PySem.Challenge.rw_askedpoints_k13_table_askers.Holds := by
  w_on; o_law
  refine HandSHeadRun.head_any (r := OpenLaw.row PySem.Challenge.rw_askedpoints_k13_table_askers) (q := view (OpenLaw.row PySem.Challenge.rw_askedpoints_k13_table_askers).prog [37]) (H := My.hk) (ob := My.ob) (M := 9000) (loose := My.loose) (d := HandSHeadRun.topDef (OpenLaw.row PySem.Challenge.rw_askedpoints_k13_table_askers).prog 37) (kwd := []) My.ob_eq
    (by kernel_rfl) (fun s => by kernel_rfl) My.run (by kernel_rfl) (by kernel_rfl) (by kernel_rfl) (by rfl) (by first | assumption | decide +kernel) (by decide +kernel) ⟨rfl, rfl, rfl, rfl, rfl, by decide +kernel⟩ ?hw ?hc
  case hw => w_witness2
  case hc =>
    refine L2.walk_ofE (l := PySem.Challenge.rw_askedpoints_k13_table_askers) (n := 63) (k := 7) (x := "_law_script") (CX := L2.CX0) rfl (by decide) (by kernel_rfl) ⟨rfl, by decide, by decide⟩ ?F (fun _ _ _ _ z => z)
    intro w mg fa h Y G hmg0
    obtain ⟨K, KX, c⟩ := Y
    have T : My.Tx K mg := Sim.TxZ.mk' KX G c
    have e : (HandSHeadRun.topDef (OpenLaw.row PySem.Challenge.rw_askedpoints_k13_table_askers).prog 37).name = ("law" : PySem.Str) := by kernel_rfl
    rw [e, My.glo_law K mg T] at hmg0
    cases hmg0
    obtain ⟨fd, F, hF⟩ := My.ok_law (w := w) T
    exact ⟨K, fd, _, KX, fun s u => F.bindsA (ps := ["_law_script"]) (fun kV doc pm an cdv ct us hl => by (cases us with | nil => cases hl | cons a t => cases t with | nil => rfl | cons b t => cases hl)) s [u] rfl, fun H a ns hl _ hS => ⟨H, (ns, ()), true, Evl.Ex.refl _, ⟨.ref a, [], rfl, ⟨a, rfl, hS⟩, rfl⟩, My.law_true ns, fun v H2 G2 u hv => hv⟩, fun base _ _ => hF base⟩
