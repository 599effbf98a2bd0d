import PyProof.Rows.All
import Wide.All
import OpenK.AllK
import Wide.FinOn
import HandS.ForMost
import HandS.Evl
import HandS.SortInts
import HandS.Wide
import HandS.More
import HandS.IsInst
import HandS.Defaults
import HandS.HeadHook1
import HandS.HeadHook2
import KE.DataEq
import HandS.HeadHook3
import HandS.Exc
import HandS.Conv
import KE.KSuper
import KE.KExcSuper
import HandS.ExcInit
import HandS.Nested
import KE.KExcInit
import HandS.ExcField
import HandS.ExcIs
import HandS.ExcOwn
import HandS.TryMany
import HandS.CallSlots
import HandS.Property
import HandS.Style
import HandS.ClsMeth
import HandS.IterNext
import HandS.IterVal
import HandS.OwnIter
import KE.KOwnIter
import HandS.Slots
import HandS.SlotsOwn
import HandS.DictComp
import PyProof.StrBlock2
import HandS.Text
import HandS.FStr
import KE.KStateDown
import Lean
import HandS.WordsExc
import HandS.Head0
import HandS.Head1
import HandS.Head2
import HandS.HeadEnd
import KE.KxLen
import PyProof.Rows.RegStrFacts
import PySem.Challenge.RW_askedpoints_k11_records
set_option Elab.async false
set_option linter.all false
set_option maxRecDepth 100000
/-! Sim: what a reading does, told by plain Lean data (mirrors). -/
namespace Sim
open PySem L2 Evl

/-! ### heaps: the data heap G below the heap H -/
structure Up (G H G2 H2 : Hp) : Prop where
  gg : Ex G G2
  gh : Ex G2 H2
  hh : Ex H H2
  nw : ∀ a, H a ≠ none → G a = none → G2 a = none
theorem Up.refl {G H : Hp} (e : Ex G H) : Up G H G H := ⟨Ex.refl _, e, Ex.refl _, fun _ _ h => h⟩
theorem Up.trans {G H G1 H1 G2 H2 : Hp} (a : Up G H G1 H1) (b : Up G1 H1 G2 H2) : Up G H G2 H2 :=
  ⟨a.gg.trans b.gg, b.gh, a.hh.trans b.hh, fun x h1 h2 => b.nw x (fun z => h1 (by
    cases q : H x with
    | none => rfl
    | some o => rw [a.hh x o q] at z; cases z)) (a.nw x h1 h2)⟩
/-- nothing new is data -/
theorem Up.same {G H H2 : Hp} (e : Ex G H) (h : Ex H H2) : Up G H G H2 := ⟨Ex.refl _, e.trans h, h, fun _ _ q => q⟩
theorem Up.lift {G Gw H G2 H2 : Hp} (u : Up G H G2 H2) (e1 : Ex G Gw) (e2 : Ex Gw H) : ∃ G3, Up Gw H G3 H2 ∧ Ex G2 G3 := by
  refine ⟨fun a => match H a with | none => G2 a | some _ => Gw a, ⟨fun a o h => ?_, fun a o h => ?_, u.hh, fun a h1 h2 => ?_⟩, fun a o h => ?_⟩
  · show (match H a with | none => G2 a | some _ => Gw a) = some o
    rw [e2 a o h]; exact h
  · have h' : (match H a with | none => G2 a | some _ => Gw a) = some o := h
    cases q : H a with
    | none => rw [q] at h'; exact u.gh a o h'
    | some o' =>
      rw [q] at h'
      exact u.hh a o (e2 a o h')
  · show (match H a with | none => G2 a | some _ => Gw a) = none
    cases q : H a with
    | none => exact absurd q h1
    | some o' => exact h2
  · show (match H a with | none => G2 a | some _ => Gw a) = some o
    cases q : H a with
    | none => exact h
    | some o' =>
      show Gw a = some o
      cases r : G a with
      | none => rw [u.nw a (by rw [q]; simp) r] at h; cases h
      | some o2 =>
        have := u.gg a o2 r
        rw [h] at this
        cases this
        exact e1 a _ r
theorem Up.lay {G H : Hp} {p : Addr} {o : HO} (e : Ex G H) (n : H p = none) : Up G H (upd G p o) (upd H p o) := by
  refine ⟨Ex.new (fresh_back e n), fun a u h => ?_, Ex.new n, fun a h1 h2 => ?_⟩
  · by_cases q : a = p
    · subst q; rw [upd_same] at h ⊢; exact h
    · rw [upd_ne q] at h ⊢; exact e a u h
  · by_cases q : a = p
    · subst q; exact absurd n h1
    · rw [upd_ne q]; exact h2

/-! ### data as it stands in a heap -/
structure Rep (α : Type) where
  r : Hp → V → α → Prop
  mono : ∀ {H H' : Hp} {v : V} {x : α}, Ex H H' → r H v x → r H' v x
/-- told by the value alone -/
def Rep.Sc {α : Type} (R : Rep α) : Prop := ∀ {H H' : Hp} {v : V} {x : α}, R.r H v x → R.r H' v x

def rI : Rep Int := ⟨fun _ v x => v = .int x, fun _ h => h⟩
def rB : Rep Bool := ⟨fun _ v x => v = .bl x, fun _ h => h⟩
def rS : Rep Str := ⟨fun _ v x => v = .str x, fun _ h => h⟩
def rU : Rep Unit := ⟨fun _ v _ => v = .non, fun _ h => h⟩
def rA : Rep Addr := ⟨fun _ v a => v = .ref a, fun _ h => h⟩
theorem scA : rA.Sc := fun h => h
theorem scI : rI.Sc := fun h => h
theorem scB : rB.Sc := fun h => h
theorem scS : rS.Sc := fun h => h
theorem scU : rU.Sc := fun h => h
def rL {α : Type} (R : Rep α) : Rep (List α) := ⟨fun H v xs => ∃ a vs, v = .ref a ∧ H a = some (.lst vs) ∧ Paired (R.r H) vs xs,
  fun e ⟨a, vs, h1, h2, h3⟩ => ⟨a, vs, h1, e a _ h2, Paired.mapP h3 fun _ _ => R.mono e⟩⟩
def rT {α : Type} (R : Rep α) : Rep (List α) := ⟨fun H v xs => ∃ a vs, v = .ref a ∧ H a = some (.tup vs) ∧ Paired (R.r H) vs xs,
  fun e ⟨a, vs, h1, h2, h3⟩ => ⟨a, vs, h1, e a _ h2, Paired.mapP h3 fun _ _ => R.mono e⟩⟩
def rP {α β : Type} (R : Rep α) (S : Rep β) : Rep (α × β) := ⟨fun H v p => ∃ a x y, v = .ref a ∧ H a = some (.tup [x, y]) ∧ R.r H x p.1 ∧ S.r H y p.2,
  fun e ⟨a, x, y, h1, h2, h3, h4⟩ => ⟨a, x, y, h1, e a _ h2, R.mono e h3, S.mono e h4⟩⟩
def rO {α : Type} (R : Rep α) : Rep (Option α) := ⟨fun H v o => match o with | none => v = .non | some x => R.r H v x,
  fun {H H' v o} e h => by cases o with | none => exact h | some x => exact R.mono e h⟩

theorem pr_get {R : V → α → Prop} : ∀ {vs : List V} {xs : List α} {i : Nat} {x : α}, Paired R vs xs → xs[i]? = some x → ∃ v, vs[i]? = some v ∧ R v x
  | _, _, _, _, .nil, e => by simp at e
  | _, _, 0, _, .cons r _, e => by simp at e; subst e; exact ⟨_, rfl, r⟩
  | _, _, i + 1, x, .cons _ t, e => by
    obtain ⟨u, h1, h2⟩ := pr_get (i := i) (x := x) t (by simpa using e)
    exact ⟨u, by simpa using h1, h2⟩
theorem pr_get' {R : V → α → Prop} : ∀ {vs : List V} {xs : List α} {i : Nat} {v : V}, Paired R vs xs → vs[i]? = some v → ∃ x, xs[i]? = some x ∧ R v x
  | _, _, _, _, .nil, e => by simp at e
  | _, _, 0, _, .cons r _, e => by simp at e; subst e; exact ⟨_, rfl, r⟩
  | _, _, i + 1, x, .cons _ t, e => by
    obtain ⟨u, h1, h2⟩ := pr_get' (i := i) (v := x) t (by simpa using e)
    exact ⟨u, by simpa using h1, h2⟩
theorem pr_app {R : V → α → Prop} : ∀ {vs : List V} {xs : List α} {vs' : List V} {xs' : List α}, Paired R vs xs → Paired R vs' xs' → Paired R (vs ++ vs') (xs ++ xs')
  | _, _, _, _, .nil, h => h
  | _, _, _, _, .cons r t, h => .cons r (pr_app t h)

/-! ### mirrors that may lack an answer -/
theorem bindS {α β : Type} {m : Option α} {f : α → Option β} {r : β} (h : (m >>= f) = some r) : ∃ x, m = some x ∧ f x = some r := by
  cases m with
  | none => exact absurd h (by simp)
  | some x => exact ⟨x, rfl, h⟩

/-! ### expressions -/
/-- te reads as m: the data heap is G, W is known to stand as well (cells that are only read) -/
def E {α : Type} (te : TE) (σ : L2.St) (G W : Hp) (R : Rep α) (m : Option α) : Prop :=
  ∀ x, m = some x → ∀ H, Ex G H → Ex W H → ∀ Q : VK, (∀ v H2 G2, Up G H G2 H2 → R.r G2 v x → Q v H2) → te σ H Q
def ET (tt : TT) (σ : L2.St) (W : Hp) (m : Option Bool) : Prop :=
  ∀ b, m = some b → ∀ H, Ex W H → ∀ Q : Bool → Hp → Prop, (∀ H2, Ex H H2 → Q b H2) → tt σ H Q
structure AR (ι : Type) where
  r : Hp → List V → ι → Prop
  mono : ∀ {H H' : Hp} {v : List V} {x : ι}, Ex H H' → r H v x → r H' v x
def aN : AR Unit := ⟨fun _ vs _ => vs = [], fun _ h => h⟩
def aC {α ι : Type} (R : Rep α) (A : AR ι) : AR (α × ι) := ⟨fun H vs p => ∃ v ws, vs = v :: ws ∧ R.r H v p.1 ∧ A.r H ws p.2,
  fun e ⟨v, ws, h1, h2, h3⟩ => ⟨v, ws, h1, R.mono e h2, A.mono e h3⟩⟩
def EA {ι : Type} (ta : TA) (σ : L2.St) (G W : Hp) (A : AR ι) (m : Option ι) : Prop :=
  ∀ x, m = some x → ∀ H, Ex G H → Ex W H → ∀ Q : List V → Hp → Prop, (∀ vs H2 G2, Up G H G2 H2 → A.r G2 vs x → Q vs H2) → ta σ H Q
section
variable {K : PySem.W.Frag} {σ : L2.St} {G H G' W W' : Hp} {ta tb te : TE} {t u : TT} {α β γ ι : Type} {R : Rep α} {S : Rep β} {T : Rep γ} {A : AR ι}
theorem E.mono {m : Option α} (e : Ex G G') (e' : Ex W W') (h : E te σ G W R m) : E te σ G' W' R m := fun x hx H e1 e2 Q q =>
  h x hx H (e.trans e1) (e'.trans e2) Q fun v H2 G2 up r => by
    obtain ⟨G3, u3, e3⟩ := up.lift e e1
    exact q v H2 G3 u3 (R.mono e3 r)
theorem ET.mono {m : Option Bool} (e : Ex W W') (h : ET t σ W m) : ET t σ W' m := fun x hx H e1 Q q => h x hx H (e.trans e1) Q q
theorem EA.mono {ta : TA} {m : Option ι} (e : Ex G G') (e' : Ex W W') (h : EA ta σ G W A m) : EA ta σ G' W' A m := fun x hx H e1 e2 Q q =>
  h x hx H (e.trans e1) (e'.trans e2) Q fun v H2 G2 up r => by
    obtain ⟨G3, u3, e3⟩ := up.lift e e1
    exact q v H2 G3 u3 (A.mono e3 r)
/-- a value that hangs on no heap -/
theorem E.s {m : Option α} (sc : R.Sc) (h : E te σ W W R m) : E te σ G W R m := fun x hx H e1 e2 Q q =>
  h x hx H e2 e2 Q fun v H2 G2 up r => q v H2 G (Up.same e1 up.hh) (sc r)
theorem e_var {i : Nat} {v : V} {x : α} (hi : σ[i]? = some (some v)) (hv : R.r G v x) : E (tVar i) σ G W R (some x) := fun y hy H e _ Q q => by
  cases hy
  exact ⟨v, hi, q v H G (Up.refl e) hv⟩
theorem e_c {v : V} {x : α} (hv : R.r G v x) : E (tC v) σ G W R (some x) := fun y hy H e _ Q q => by
  cases hy
  exact q v H G (Up.refl e) hv
theorem e_int {i : Int} : E (tC (.int i)) σ G W rI (some i) := e_c rfl
theorem e_bl {i : Bool} : E (tC (.bl i)) σ G W rB (some i) := e_c rfl
theorem e_str {i : Str} : E (tC (.str i)) σ G W rS (some i) := e_c rfl
theorem e_non : E (tC .non) σ G W rU (some ()) := e_c rfl
/-- an operator on values, as a mirror -/
def RR (r : R2) (R : Rep α) (S : Rep β) (T : Rep γ) (f : α → β → Option γ) : Prop :=
  ∀ v w x y z H G, R.r G v x → S.r G w y → f x y = some z → Ex G H → ∀ Q : VK, (∀ u H2 G2, Up G H G2 H2 → T.r G2 u z → Q u H2) → r v w H Q
theorem e_op {r : R2} {f : α → β → Option γ} {ma : Option α} {mb : Option β} (hr : RR r R S T f) (ha : E ta σ G W R ma) (hb : E tb σ G W S mb) :
    E (tOp r ta tb) σ G W T (ma >>= fun x => mb >>= fun y => f x y) := fun z hz H e e' Q q => by
  obtain ⟨x, hx, hz⟩ := bindS hz
  obtain ⟨y, hy, hz⟩ := bindS hz
  refine ha x hx H e e' _ fun v H1 G1 u1 r1 => ?_
  refine (hb.mono u1.gg (e'.trans u1.hh)) y hy H1 u1.gh (Ex.refl _) _ fun w H2 G2 u2 r2 => ?_
  exact hr v w x y z H2 G2 (R.mono u2.gg r1) r2 hz u2.gh Q fun u H3 G3 u3 r3 => q u H3 G3 ((u1.trans u2).trans u3) r3
theorem rr_I0 {g : Int → Int → V} {f : Int → Int → γ} (h : ∀ i j H, T.r H (g i j) (f i j)) : RR (rI0 g) rI rI T (fun i j => some (f i j)) := fun v w x y z H G hv hw hz e Q q => by
  cases hv; cases hw; cases hz
  exact ⟨x, y, rfl, rfl, q _ H G (Up.refl e) (h x y G)⟩
theorem rr_I {C : Int → Int → Prop} {g : Int → Int → V} {f : Int → Int → Option γ} (h : ∀ i j z, f i j = some z → C i j ∧ ∀ H, T.r H (g i j) z) : RR (L2.rI C g) rI rI T f := fun v w x y z H G hv hw hz e Q q => by
  cases hv; cases hw
  obtain ⟨h1, h2⟩ := h x y z hz
  exact ⟨x, y, rfl, rfl, h1, q _ H G (Up.refl e) (h2 G)⟩
end
end Sim

namespace Sim
open PySem L2 Evl

/-! ### cells: objects that change -/
structure CP where
  p : Hp → HO → Prop
  mono : ∀ {G G' : Hp} {o : HO}, Ex G G' → p G o → p G' o
def cL {α : Type} (R : Rep α) (xs : List α) : CP := ⟨fun G o => ∃ vs, o = .lst vs ∧ Paired (R.r G) vs xs, fun e ⟨vs, h1, h2⟩ => ⟨vs, h1, Paired.mapP h2 fun _ _ => R.mono e⟩⟩
abbrev Cs := List (Addr × CP)
structure Wd (G H : Hp) (cs : Cs) : Prop where
  ex : Ex G H
  at_ : ∀ c ∈ cs, G c.1 = none ∧ ∃ o, H c.1 = some o ∧ c.2.p G o
  nd : (cs.map (·.1)).Nodup
theorem Wd.nil {G H : Hp} (e : Ex G H) : Wd G H [] := ⟨e, fun _ h => absurd h List.not_mem_nil, List.nodup_nil⟩
section
variable {G H G2 H2 : Hp} {cs : Cs} {l : Addr} {cp cp' : CP}
theorem Wd.head (w : Wd G H ((l, cp) :: cs)) : G l = none ∧ ∃ o, H l = some o ∧ cp.p G o := w.at_ _ (List.mem_cons_self ..)
theorem Wd.tail (w : Wd G H ((l, cp) :: cs)) : Wd G H cs := ⟨w.ex, fun c h => w.at_ c (List.mem_cons_of_mem _ h), (List.nodup_cons.mp w.nd).2⟩
theorem Wd.up (w : Wd G H cs) (u : Up G H G2 H2) : Wd G2 H2 cs := ⟨u.gh, fun c h => by
  obtain ⟨h1, o, h2, h3⟩ := w.at_ c h
  exact ⟨u.nw _ (by rw [h2]; simp) h1, o, u.hh _ _ h2, c.2.mono u.gg h3⟩, w.nd⟩
theorem Wd.sc (w : Wd G H cs) (u : Ex H H2) : Wd G H2 cs := w.up (Up.same w.ex u)
theorem Wd.swap {l' : Addr} (w : Wd G H ((l, cp) :: (l', cp') :: cs)) : Wd G H ((l', cp') :: (l, cp) :: cs) := ⟨w.ex, fun c h => w.at_ c (by
  rcases List.mem_cons.mp h with h | h
  · subst h; exact List.mem_cons_of_mem _ (List.mem_cons_self ..)
  · rcases List.mem_cons.mp h with h | h
    · subst h; exact List.mem_cons_self ..
    · exact List.mem_cons_of_mem _ (List.mem_cons_of_mem _ h)), by
  have := w.nd
  simp only [List.map_cons, List.nodup_cons, List.mem_cons, not_or] at this ⊢
  exact ⟨⟨fun z => this.1.1 z.symm, this.2.1⟩, this.1.2, this.2.2⟩⟩
/-- the first cell moved behind the second and third -/
theorem Wd.rot3 {l' l'' : Addr} {cp'' : CP} (w : Wd G H ((l, cp) :: (l', cp') :: (l'', cp'') :: cs)) : Wd G H ((l'', cp'') :: (l, cp) :: (l', cp') :: cs) := ⟨w.ex, fun c h => w.at_ c (by
  simp only [List.mem_cons] at h ⊢
  rcases h with h | h | h | h <;> simp [h]), by
  have := w.nd
  simp only [List.map_cons, List.nodup_cons, List.mem_cons, not_or] at this ⊢
  obtain ⟨⟨a, b, c⟩, ⟨d, e⟩, f, g⟩ := this
  exact ⟨⟨fun z => b z.symm, fun z => d z.symm, f⟩, ⟨a, c⟩, e, g⟩⟩
/-- the first cell is written -/
theorem Wd.write (w : Wd G H ((l, cp) :: cs)) {o : HO} (h : cp'.p G o) : Wd G (upd H l o) ((l, cp') :: cs) := by
  refine ⟨fun a u e => ?_, fun c hc => ?_, w.nd⟩
  · rw [upd_ne (fun z => by subst z; rw [w.head.1] at e; cases e)]; exact w.ex a u e
  · rcases List.mem_cons.mp hc with hc | hc
    · subst hc; exact ⟨w.head.1, o, upd_same, h⟩
    · obtain ⟨h1, o', h2, h3⟩ := w.tail.at_ c hc
      have hne : c.1 ≠ l := fun z => (List.nodup_cons.mp w.nd).1 (by rw [← z]; exact List.mem_map_of_mem (f := (·.1)) hc)
      exact ⟨h1, o', by rw [upd_ne hne]; exact h2, h3⟩
/-- a new cell is laid -/
theorem Wd.new (w : Wd G H cs) {o : HO} (n : H l = none) (h : cp.p G o) : Wd G (upd H l o) ((l, cp) :: cs) := by
  refine ⟨w.ex.mut (fresh_back w.ex n), fun c hc => ?_, ?_⟩
  · rcases List.mem_cons.mp hc with hc | hc
    · subst hc; exact ⟨fresh_back w.ex n, o, upd_same, h⟩
    · obtain ⟨h1, o', h2, h3⟩ := w.at_ c hc
      exact ⟨h1, o', by rw [upd_ne (ne_of_none h2 n)]; exact h2, h3⟩
  · show (l :: cs.map (·.1)).Nodup
    refine List.nodup_cons.mpr ⟨fun hm => ?_, w.nd⟩
    obtain ⟨c, hc, e⟩ := List.mem_map.mp hm
    obtain ⟨_, o', h2, _⟩ := w.at_ c hc
    exact ne_of_none h2 n e
/-- a list cell becomes data -/
theorem Wd.freeze {α : Type} {R : Rep α} {xs : List α} (w : Wd G H ((l, cL R xs) :: cs)) : ∃ G2, Wd G2 H cs ∧ Ex G G2 ∧ (rL R).r G2 (.ref l) xs := by
  obtain ⟨h1, o, h2, vs, rfl, h3⟩ := w.head
  refine ⟨upd G l (.lst vs), ⟨fun a u e => ?_, fun c hc => ?_, w.tail.nd⟩, Ex.new h1, l, vs, rfl, upd_same, Paired.mapP h3 fun _ _ => R.mono (Ex.new h1)⟩
  · by_cases q : a = l
    · subst q; rw [upd_same] at e; cases e; exact h2
    · rw [upd_ne q] at e; exact w.ex a u e
  · obtain ⟨k1, o', k2, k3⟩ := w.tail.at_ c hc
    have hne : c.1 ≠ l := fun z => (List.nodup_cons.mp w.nd).1 (by rw [← z]; exact List.mem_map_of_mem (f := (·.1)) hc)
    exact ⟨by rw [upd_ne hne]; exact k1, o', k2, c.2.mono (Ex.new h1) k3⟩
/-- a cell read as it stands -/
theorem Wd.rl {α : Type} {R : Rep α} {xs : List α} (w : Wd G H ((l, cL R xs) :: cs)) : (rL R).r H (.ref l) xs := by
  obtain ⟨h1, o, h2, vs, rfl, h3⟩ := w.head
  exact ⟨l, vs, rfl, h2, Paired.mapP h3 fun _ _ => R.mono w.ex⟩
end
theorem Wd.rl1 {G H : Hp} {cs : Cs} {α : Type} {R : Rep α} {xs : List α} {l : Addr} {c : Addr × CP} (w : Wd G H (c :: (l, cL R xs) :: cs)) : (rL R).r H (.ref l) xs := w.tail.rl
theorem Wd.rl2 {G H : Hp} {cs : Cs} {α : Type} {R : Rep α} {xs : List α} {l : Addr} {c c' : Addr × CP} (w : Wd G H (c :: c' :: (l, cL R xs) :: cs)) : (rL R).r H (.ref l) xs := w.tail.tail.rl

/-! ### promises -/
/-- what is handed back is data -/
def PF {ι α : Type} (A : AR ι) (R : Rep α) (f : ι → Option α) : Sp := fun vs H Q _ => ∃ G i x, Ex G H ∧ A.r G vs i ∧ f i = some x ∧ ∀ v H2 G2, Up G H G2 H2 → R.r G2 v x → Q v H2
/-- a new list is handed back -/
def PL {ι α : Type} (A : AR ι) (R : Rep α) (f : ι → Option (List α)) : Sp := fun vs H Q _ => ∃ G i x, Ex G H ∧ A.r G vs i ∧ f i = some x ∧
  ∀ p H2 G2, H p = none → Up G H G2 H2 → Wd G2 H2 [(p, cL R x)] → Q (.ref p) H2
/-- cells change -/
structure Fr (G H G2 H2 : Hp) (ls : List Addr) : Prop where
  gg : Ex G G2
  fr : ∀ a o, H a = some o → a ∉ ls → H2 a = some o
  nw : ∀ a, H a ≠ none → G a = none → G2 a = none
  st : ∀ a, H a ≠ none → H2 a ≠ none
def PM {ι κ α : Type} (A : AR ι) (ci : ι → κ → Cs) (R : Rep α) (f : ι → κ → Option (α × κ)) : Sp := fun vs H Q _ => ∃ G i k x k', A.r G vs i ∧ Wd G H (ci i k) ∧ f i k = some (x, k') ∧
  ∀ v H2 G2, Fr G H G2 H2 ((ci i k).map (·.1)) → Wd G2 H2 (ci i k') → R.r G2 v x → Q v H2
def PML {ι κ α : Type} (A : AR ι) (ci : ι → κ → Cs) (R : Rep α) (f : ι → κ → Option (List α × κ)) : Sp := fun vs H Q _ => ∃ G i k x k', A.r G vs i ∧ Wd G H (ci i k) ∧ f i k = some (x, k') ∧
  ∀ p H2 G2, H p = none → Fr G H G2 H2 ((ci i k).map (·.1)) → Wd G2 H2 ((p, cL R x) :: ci i k') → Q (.ref p) H2
theorem Wd.app {G H : Hp} {a b : Cs} (w : Wd G H (a ++ b)) : Wd G H a ∧ Wd G H b := ⟨⟨w.ex, fun c h => w.at_ c (List.mem_append_left _ h), by
  have := w.nd; rw [List.map_append] at this; exact (List.nodup_append.mp this).1⟩, ⟨w.ex, fun c h => w.at_ c (List.mem_append_right _ h), by
  have := w.nd; rw [List.map_append] at this; exact (List.nodup_append.mp this).2.1⟩⟩
theorem Wd.join {G H G2 H2 : Hp} {a a' b : Cs} (w : Wd G H (a ++ b)) (f : Fr G H G2 H2 (a.map (·.1))) (w2 : Wd G2 H2 a') (e : a'.map (·.1) = a.map (·.1)) : Wd G2 H2 (a' ++ b) := by
  have nd : (a.map (·.1) ++ b.map (·.1)).Nodup := by have := w.nd; rw [List.map_append] at this; exact this
  refine ⟨w2.ex, fun c h => ?_, by rw [List.map_append, e]; exact nd⟩
  rcases List.mem_append.mp h with h | h
  · exact w2.at_ c h
  · obtain ⟨h1, o, h2, h3⟩ := w.app.2.at_ c h
    have hn : c.1 ∉ a.map (·.1) := fun z => (List.nodup_append.mp nd).2.2 _ z _ (List.mem_map_of_mem h) rfl
    exact ⟨f.nw _ (by rw [h2]; simp) h1, o, f.fr _ _ h2 hn, c.2.mono f.gg h3⟩
/-- the same, a new cell ahead -/
theorem Wd.joinN {G H G2 H2 : Hp} {a a' b : Cs} {p : Addr} {cp : CP} (w : Wd G H (a ++ b)) (f : Fr G H G2 H2 (a.map (·.1))) (hp : H p = none) (w2 : Wd G2 H2 ((p, cp) :: a')) (e : a'.map (·.1) = a.map (·.1)) : Wd G2 H2 ((p, cp) :: (a' ++ b)) := by
  have w3 := w.join f w2.tail e
  refine ⟨w3.ex, fun c h => ?_, ?_⟩
  · rcases List.mem_cons.mp h with h | h
    · subst h; exact w2.head
    · exact w3.at_ c h
  · show (p :: (a' ++ b).map (·.1)).Nodup
    refine List.nodup_cons.mpr ⟨fun hm => ?_, w3.nd⟩
    rw [List.map_append, e, ← List.map_append] at hm
    obtain ⟨c, hc, ec⟩ := List.mem_map.mp hm
    obtain ⟨_, o', h2, _⟩ := w.at_ c hc
    exact ne_of_none h2 hp ec
theorem Fr.refl {G H : Hp} {ls : List Addr} : Fr G H G H ls := ⟨Ex.refl _, fun _ _ h _ => h, fun _ _ h => h, fun _ h => h⟩
theorem some_ne {H H2 : Hp} (e : Ex H H2) {a : Addr} (h : H a ≠ none) : H2 a ≠ none := by
  cases q : H a with
  | none => exact absurd q h
  | some o => rw [e a o q]; simp
theorem Up.fr {G H G2 H2 : Hp} {ls : List Addr} (u : Up G H G2 H2) : Fr G H G2 H2 ls := ⟨u.gg, fun a o h _ => u.hh a o h, u.nw, fun a h => some_ne u.hh h⟩
theorem Fr.trans {G H G1 H1 G2 H2 : Hp} {ls : List Addr} (a : Fr G H G1 H1 ls) (b : Fr G1 H1 G2 H2 ls) : Fr G H G2 H2 ls :=
  ⟨a.gg.trans b.gg, fun x o h1 h2 => b.fr x o (a.fr x o h1 h2) h2, fun x h1 h2 => b.nw x (a.st x h1) (a.nw x h1 h2), fun x h => b.st x (a.st x h)⟩
/-- a frame of more cells, those that were not there ahead -/
theorem Fr.less {G H G2 H2 : Hp} {ls ms : List Addr} (a : Fr G H G2 H2 ms) (h : ∀ x ∈ ms, x ∈ ls ∨ H x = none) : Fr G H G2 H2 ls :=
  ⟨a.gg, fun x o h1 h2 => a.fr x o h1 fun z => (h x z).elim h2 fun q => absurd h1 (by rw [q]; simp), a.nw, a.st⟩
theorem Fr.write {G H : Hp} {l : Addr} {o : HO} : Fr G H G (upd H l o) [l] := ⟨Ex.refl _, fun a u h1 h2 => by rw [upd_ne (fun z => h2 (by rw [z]; exact List.mem_cons_self ..))]; exact h1, fun _ _ h => h, fun a h => by
  by_cases q : a = l
  · subst q; rw [upd_same]; simp
  · rw [upd_ne q]; exact h⟩
end Sim

namespace Sim
open PySem L2 Evl
section
variable {K : PySem.W.Frag} {σ : L2.St} {G H G' W W' : Hp} {ta tb te tc : TE} {t u : TT} {α β γ ι κ : Type} {R : Rep α} {S : Rep β} {T : Rep γ} {A : AR ι}

/-! ### mirrors of operations that may lack an answer -/
def mulM (a b : Int) : Option Int := if (-(2 ^ 64) < a ∧ a < 2 ^ 64) ∨ (-(2 ^ 64) < b ∧ b < 2 ^ 64) then some (a * b) else none
def modM (a b : Int) : Option Int := if 0 < b then some (a % b) else none
def fdivM (a b : Int) : Option Int := if 0 < b ∧ b < 1073741824 then some (a / b) else none
def andO (a : Option Bool) (b : Option Bool) : Option Bool := a >>= fun x => bif x then b else some false
def orO (a : Option Bool) (b : Option Bool) : Option Bool := a >>= fun x => bif x then some true else b
def iteO (c : Option Bool) (a b : Option α) : Option α := c >>= fun x => bif x then a else b

theorem rr_add : RR (rI0 fun i j => .int (i + j)) rI rI rI (fun i j => some (i + j)) := rr_I0 fun _ _ _ => rfl
theorem rr_sub : RR (rI0 fun i j => .int (i - j)) rI rI rI (fun i j => some (i - j)) := rr_I0 fun _ _ _ => rfl
theorem rr_mul : RR (L2.rI CMul fun i j => .int (i * j)) rI rI rI mulM := rr_I fun i j z h => by
  unfold mulM at h
  split at h
  · rename_i hc; cases h; exact ⟨hc, fun _ => rfl⟩
  · cases h
theorem rr_mod : RR (L2.rI (fun _ j => 0 < j) fun i j => .int (i % j)) rI rI rI modM := rr_I fun i j z h => by
  unfold modM at h
  split at h
  · rename_i hc; cases h; exact ⟨hc, fun _ => rfl⟩
  · cases h
theorem rr_fdiv : RR (L2.rI CDiv fun i j => .int (i / j)) rI rI rI fdivM := rr_I fun i j z h => by
  unfold fdivM at h
  split at h
  · rename_i hc; cases h; exact ⟨hc, fun _ => rfl⟩
  · cases h
theorem rr_and : RR (rI0 fun i j => .int (Builtin.bitAnd i j)) rI rI rI (fun i j => some (Builtin.bitAnd i j)) := rr_I0 fun _ _ _ => rfl
theorem rr_or : RR (rI0 fun i j => .int (Builtin.bitOr i j)) rI rI rI (fun i j => some (Builtin.bitOr i j)) := rr_I0 fun _ _ _ => rfl
theorem rr_lt : RR (rI0 fun i j => .bl (decide (i < j))) rI rI rB (fun i j => some (decide (i < j))) := rr_I0 fun _ _ _ => rfl
theorem rr_le : RR (rI0 fun i j => .bl (decide (i ≤ j))) rI rI rB (fun i j => some (decide (i ≤ j))) := rr_I0 fun _ _ _ => rfl
theorem rr_gt : RR (rI0 fun i j => .bl (decide (j < i))) rI rI rB (fun i j => some (decide (j < i))) := rr_I0 fun _ _ _ => rfl
theorem rr_ge : RR (rI0 fun i j => .bl (decide (j ≤ i))) rI rI rB (fun i j => some (decide (j ≤ i))) := rr_I0 fun _ _ _ => rfl
theorem rr_eqI : RR rEq rI rI rB (fun i j => some (i == j)) := fun v w x y z H G hv hw hz e Q q => by
  cases hv; cases hw; cases hz
  exact ⟨rfl, q _ H G (Up.refl e) (congrArg V.bl dec_int)⟩
theorem rr_neI : RR rNe rI rI rB (fun i j => some (!(i == j))) := fun v w x y z H G hv hw hz e Q q => by
  cases hv; cases hw; cases hz
  exact ⟨rfl, q _ H G (Up.refl e) (congrArg (fun b => V.bl (!b)) dec_int)⟩
theorem rr_eqB : RR rEq rB rB rB (fun i j => some (i == j)) := fun v w x y z H G hv hw hz e Q q => by
  cases hv; cases hw; cases hz
  exact ⟨rfl, q _ H G (Up.refl e) (congrArg V.bl dec_bl)⟩
theorem rr_neB : RR rNe rB rB rB (fun i j => some (!(i == j))) := fun v w x y z H G hv hw hz e Q q => by
  cases hv; cases hw; cases hz
  exact ⟨rfl, q _ H G (Up.refl e) (congrArg (fun b => V.bl (!b)) dec_bl)⟩
theorem rr_eqS : RR rEq rS rS rB (fun i j => some (decide (i = j))) := fun v w x y z H G hv hw hz e Q q => by
  cases hv; cases hw; cases hz
  refine ⟨rfl, q _ H G (Up.refl e) (congrArg V.bl ?_)⟩
  by_cases h : x = y
  · subst h; simp
  · have : ¬ V.str x = V.str y := fun z => h (V.str.inj z)
    simp [h, this]
theorem rr_neS : RR rNe rS rS rB (fun i j => some (!decide (i = j))) := fun v w x y z H G hv hw hz e Q q => by
  cases hv; cases hw; cases hz
  refine ⟨rfl, q _ H G (Up.refl e) (congrArg (fun b => V.bl (!b)) ?_)⟩
  by_cases h : x = y
  · subst h; simp
  · have : ¬ V.str x = V.str y := fun z => h (V.str.inj z)
    simp [h, this]
theorem rr_ixL : RR (rIxL K) (rL R) rI R (fun xs i => atI xs i) := fun v w xs i z H G hv hw hz e Q q => by
  obtain ⟨a, vs, rfl, h2, h3⟩ := hv
  cases hw
  have hz' : (ixN xs.length i).bind (fun j => xs[j]?) = some z := hz
  cases hj : ixN xs.length i with
  | none => rw [hj] at hz'; cases hz'
  | some j =>
    rw [hj] at hz'
    obtain ⟨y, h4, h5⟩ := pr_get h3 (show xs[j]? = some z from hz')
    refine ⟨a, vs, i, y, rfl, rfl, Or.inl (Or.inl (e a _ h2)), ?_, q y H G (Up.refl e) h5⟩
    show (ixN vs.length i).bind (fun j => vs[j]?) = some y
    rw [h3.length, hj]; exact h4
theorem rr_ixT : RR (rIxT K) (rT R) rI R (fun xs i => atI xs i) := fun v w xs i z H G hv hw hz e Q q => by
  obtain ⟨a, vs, rfl, h2, h3⟩ := hv
  cases hw
  have hz' : (ixN xs.length i).bind (fun j => xs[j]?) = some z := hz
  cases hj : ixN xs.length i with
  | none => rw [hj] at hz'; cases hz'
  | some j =>
    rw [hj] at hz'
    obtain ⟨y, h4, h5⟩ := pr_get h3 (show xs[j]? = some z from hz')
    refine ⟨a, vs, i, y, rfl, rfl, Or.inl (Or.inl (e a _ h2)), ?_, q y H G (Up.refl e) h5⟩
    show (ixN vs.length i).bind (fun j => vs[j]?) = some y
    rw [h3.length, hj]; exact h4
/-- p[0], p[1] of a pair -/
theorem e_fst {m : Option (α × β)} (h : E ta σ G W (rP R S) m) : E (tOp (rIxT K) ta (tC (.int 0))) σ G W R (m >>= fun p => some p.1) := fun z hz H e e' Q q => by
  obtain ⟨x, hx, hz⟩ := bindS hz
  cases hz
  refine h x hx H e e' _ fun v H1 G1 u1 r1 => ?_
  obtain ⟨a, y, w, rfl, h2, h3, h4⟩ := r1
  exact ⟨a, [y, w], 0, y, rfl, rfl, Or.inl (Or.inl (u1.gh a _ h2)), rfl, q y H1 G1 u1 h3⟩
theorem e_snd {m : Option (α × β)} (h : E ta σ G W (rP R S) m) : E (tOp (rIxT K) ta (tC (.int 1))) σ G W S (m >>= fun p => some p.2) := fun z hz H e e' Q q => by
  obtain ⟨x, hx, hz⟩ := bindS hz
  cases hz
  refine h x hx H e e' _ fun v H1 G1 u1 r1 => ?_
  obtain ⟨a, y, w, rfl, h2, h3, h4⟩ := r1
  exact ⟨a, [y, w], 1, w, rfl, rfl, Or.inl (Or.inl (u1.gh a _ h2)), rfl, q w H1 G1 u1 h4⟩
/-- never None -/
def Rep.NN (R : Rep α) : Prop := ∀ {H : Hp} {v : V} {x : α}, R.r H v x → v ≠ .non
theorem nnI : rI.NN := fun h => by rw [show _ = V.int _ from h]; simp
theorem nnB : rB.NN := fun h => by rw [show _ = V.bl _ from h]; simp
theorem nnS : rS.NN := fun h => by rw [show _ = V.str _ from h]; simp
theorem nnL : (rL R).NN := fun ⟨a, _, h, _⟩ => by rw [h]; simp
theorem nnT : (rT R).NN := fun ⟨a, _, h, _⟩ => by rw [h]; simp
theorem nnP : (rP R S).NN := fun ⟨a, _, _, h, _⟩ => by rw [h]; simp
theorem rr_isN (nn : R.NN) : RR (fun x y H Q => y = .non ∧ Q (.bl (decide (x = .non))) H) (rO R) rU rB (fun o _ => some o.isNone) := fun v w o y z H G hv hw hz e Q q => by
  cases hz
  refine ⟨hw, q _ H G (Up.refl e) ?_⟩
  cases o with
  | none => have : v = .non := hv; subst this; rfl
  | some x => exact congrArg V.bl (decide_eq_false (nn hv))
theorem rr_notN (nn : R.NN) : RR (fun x y H Q => y = .non ∧ Q (.bl (!decide (x = .non))) H) (rO R) rU rB (fun o _ => some o.isSome) := fun v w o y z H G hv hw hz e Q q => by
  cases hz
  refine ⟨hw, q _ H G (Up.refl e) ?_⟩
  cases o with
  | none => have : v = .non := hv; subst this; rfl
  | some x => exact congrArg (fun b => V.bl (!b)) (decide_eq_false (nn hv))
/-- flat values: in -/
structure FlR (R : Rep α) (eq : α → α → Bool) : Prop where
  fl : ∀ {H : Hp} {v : V} {x : α}, R.r H v x → flatV v = true
  eq : ∀ {H H' : Hp} {v w : V} {x y : α}, R.r H v x → R.r H' w y → eqV v w = eq x y
theorem flI : FlR rI (fun a b => a == b) := ⟨fun h => by rw [show _ = V.int _ from h]; rfl, fun h h' => by rw [show _ = V.int _ from h, show _ = V.int _ from h']; rfl⟩
theorem flS : FlR rS (fun a b => a == b) := ⟨fun h => by rw [show _ = V.str _ from h]; rfl, fun h h' => by rw [show _ = V.str _ from h, show _ = V.str _ from h']; rfl⟩
theorem pr_inV {eq : α → α → Bool} (f : FlR R eq) {H H' : Hp} {v : V} {x : α} (hv : R.r H' v x) : ∀ {vs : List V} {xs : List α}, Paired (R.r H) vs xs → inV v vs = xs.any (fun y => eq y x) ∧ vs.all flatV = true
  | _, _, .nil => ⟨rfl, rfl⟩
  | _, _, .cons r t => by
    obtain ⟨h1, h2⟩ := pr_inV f hv t
    refine ⟨?_, ?_⟩
    · show (eqV _ v || _) = (eq _ x || _)
      rw [f.eq r hv]; exact congrArg _ h1
    · show (flatV _ && _) = true
      rw [f.fl r]; exact h2
theorem rr_inL {eq : α → α → Bool} (f : FlR R eq) : RR (rIn K false) R (rL R) rB (fun x xs => some (xs.any fun y => eq y x)) := fun v w x xs z H G hv hw hz e Q q => by
  cases hz
  obtain ⟨a, vs, rfl, h2, h3⟩ := hw
  obtain ⟨h4, h5⟩ := pr_inV f hv h3
  refine ⟨a, vs, rfl, Or.inl (Or.inl (Or.inl (e a _ h2))), f.fl hv, h5, q _ H G (Up.refl e) (congrArg V.bl ?_)⟩
  exact h4
theorem rr_ninL {eq : α → α → Bool} (f : FlR R eq) : RR (rIn K true) R (rL R) rB (fun x xs => some (!xs.any fun y => eq y x)) := fun v w x xs z H G hv hw hz e Q q => by
  cases hz
  obtain ⟨a, vs, rfl, h2, h3⟩ := hw
  obtain ⟨h4, h5⟩ := pr_inV f hv h3
  refine ⟨a, vs, rfl, Or.inl (Or.inl (Or.inl (e a _ h2))), f.fl hv, h5, q _ H G (Up.refl e) (congrArg V.bl ?_)⟩
  exact congrArg (fun b => !b) h4

/-! ### and, or, not, if -/
theorem e_andV {a b : Option Bool} (h1 : E ta σ G W rB a) (h2 : E tb σ G W rB b) : E (tAndV ta tb) σ G W rB (andO a b) := fun z hz H e e' Q q => by
  obtain ⟨x, hx, hz⟩ := bindS hz
  refine h1 x hx H e e' _ fun v H1 G1 u1 r1 => ⟨x, r1, ?_⟩
  cases x with
  | true => exact (h2.mono u1.gg (e'.trans u1.hh)) z hz H1 u1.gh (Ex.refl _) Q fun v H2 G2 u2 r2 => q v H2 G2 (u1.trans u2) r2
  | false => cases hz; exact q _ H1 G1 u1 rfl
theorem e_orV {a b : Option Bool} (h1 : E ta σ G W rB a) (h2 : E tb σ G W rB b) : E (tOrV ta tb) σ G W rB (orO a b) := fun z hz H e e' Q q => by
  obtain ⟨x, hx, hz⟩ := bindS hz
  refine h1 x hx H e e' _ fun v H1 G1 u1 r1 => ⟨x, r1, ?_⟩
  cases x with
  | false => exact (h2.mono u1.gg (e'.trans u1.hh)) z hz H1 u1.gh (Ex.refl _) Q fun v H2 G2 u2 r2 => q v H2 G2 (u1.trans u2) r2
  | true => cases hz; exact q _ H1 G1 u1 rfl
theorem e_notV {a : Option Bool} (h1 : E ta σ G W rB a) : E (tNotV ta) σ G W rB (a >>= fun x => some (!x)) := fun z hz H e e' Q q => by
  obtain ⟨x, hx, hz⟩ := bindS hz
  cases hz
  exact h1 x hx H e e' _ fun v H1 G1 u1 r1 => ⟨x, r1, q _ H1 G1 u1 rfl⟩
theorem e_if {c : Option Bool} {ma mb : Option α} (hc : ET t σ W c) (h1 : E ta σ G W R ma) (h2 : E tb σ G W R mb) : E (tIf t ta tb) σ G W R (iteO c ma mb) := fun z hz H e e' Q q => by
  obtain ⟨x, hx, hz⟩ := bindS hz
  refine hc x hx H e' _ fun H1 e1 => ?_
  cases x with
  | true => exact h1 z hz H1 (e.trans e1) (e'.trans e1) Q fun v H2 G2 u2 r2 => q v H2 G2 ((Up.same e e1).trans u2) r2
  | false => exact h2 z hz H1 (e.trans e1) (e'.trans e1) Q fun v H2 G2 u2 r2 => q v H2 G2 ((Up.same e e1).trans u2) r2
theorem et_T {m : Option Bool} (h : E te σ W W rB m) : ET (tTest te) σ W m := fun b hb H e Q q => h b hb H e e _ fun v H2 G2 u r => ⟨b, r, q H2 u.hh⟩
theorem et_B {m : Option Bool} (h : E te σ W W rB m) : ET (tB te) σ W m := fun b hb H e Q q => h b hb H e e _ fun v H2 G2 u r => ⟨b, r, q H2 u.hh⟩
theorem et_and {a b : Option Bool} (h1 : ET t σ G a) (h2 : ET u σ G b) : ET (tAnd t u) σ G (andO a b) := fun z hz H e Q q => by
  obtain ⟨x, hx, hz⟩ := bindS hz
  refine h1 x hx H e _ fun H1 e1 => ?_
  cases x with
  | true => exact h2 z hz H1 (e.trans e1) Q fun H2 e2 => q H2 (e1.trans e2)
  | false => cases hz; exact q H1 e1
theorem et_or {a b : Option Bool} (h1 : ET t σ G a) (h2 : ET u σ G b) : ET (tOr t u) σ G (orO a b) := fun z hz H e Q q => by
  obtain ⟨x, hx, hz⟩ := bindS hz
  refine h1 x hx H e _ fun H1 e1 => ?_
  cases x with
  | false => exact h2 z hz H1 (e.trans e1) Q fun H2 e2 => q H2 (e1.trans e2)
  | true => cases hz; exact q H1 e1
theorem et_not {a : Option Bool} (h1 : ET t σ G a) : ET (tNot t) σ G (a >>= fun x => some (!x)) := fun z hz H e Q q => by
  obtain ⟨x, hx, hz⟩ := bindS hz
  cases hz
  exact h1 x hx H e _ fun H1 e1 => q H1 e1

/-! ### arguments, calls -/
theorem ea_nil : EA tNil σ G W aN (some ()) := fun x hx H e e' Q q => q [] H G (Up.refl e) rfl
theorem ea_cons {tr : TA} {ma : Option α} {mr : Option ι} (h : E ta σ G W R ma) (hr : EA tr σ G W A mr) : EA (tCons ta tr) σ G W (aC R A) (ma >>= fun x => mr >>= fun y => some (x, y)) := fun z hz H e e' Q q => by
  obtain ⟨x, hx, hz⟩ := bindS hz
  obtain ⟨y, hy, hz⟩ := bindS hz
  cases hz
  refine h x hx H e e' _ fun v H1 G1 u1 r1 => ?_
  refine (hr.mono u1.gg (e'.trans u1.hh)) y hy H1 u1.gh (Ex.refl _) _ fun w H2 G2 u2 r2 => ?_
  exact q (v :: w) H2 G2 (u1.trans u2) ⟨v, w, rfl, R.mono u2.gg r1, r2⟩
def RC (r : List V → Hp → VK → Prop) (A : AR ι) (T : Rep γ) (f : ι → Option γ) : Prop :=
  ∀ vs i z H G, A.r G vs i → f i = some z → Ex G H → ∀ Q : VK, (∀ u H2 G2, Up G H G2 H2 → T.r G2 u z → Q u H2) → r vs H Q
def RCL (r : List V → Hp → VK → Prop) (A : AR ι) (T : Rep γ) (f : ι → Option (List γ)) : Prop :=
  ∀ vs i z H G, A.r G vs i → f i = some z → Ex G H → ∀ Q : VK, (∀ p H2 G2, H p = none → Up G H G2 H2 → Wd G2 H2 [(p, cL T z)] → Q (.ref p) H2) → r vs H Q
/-- an expression that makes a new list -/
def EL (te : TE) (σ : L2.St) (G W : Hp) (R : Rep α) (m : Option (List α)) : Prop :=
  ∀ xs, m = some xs → ∀ H, Ex G H → Ex W H → ∀ Q : VK, (∀ p H2 G2, H p = none → Up G H G2 H2 → Wd G2 H2 [(p, cL R xs)] → Q (.ref p) H2) → te σ H Q
theorem Up.frz {G H G1 H1 G2 : Hp} {p : Addr} (hp : H p = none) (u : Up G H G1 H1) (e : Ex G1 G2) (e2 : Ex G2 H1) (n : ∀ a, a ≠ p → G1 a = none → G2 a = none) : Up G H G2 H1 :=
  ⟨u.gg.trans e, e2, u.hh, fun a h1 h2 => n a (fun z => by subst z; exact h1 hp) (u.nw a h1 h2)⟩
theorem frz1 {G H G1 H1 : Hp} {p : Addr} {xs : List α} (hp : H p = none) (u : Up G H G1 H1) (w : Wd G1 H1 [(p, cL R xs)]) : ∃ G2, Up G H G2 H1 ∧ (rL R).r G2 (.ref p) xs := by
  obtain ⟨h1, o, h2, vs, rfl, h3⟩ := w.head
  refine ⟨upd G1 p (.lst vs), u.frz hp (Ex.new h1) (fun a u' e => ?_) (fun a ne h => by rw [upd_ne ne]; exact h), p, vs, rfl, upd_same, Paired.mapP h3 fun _ _ => R.mono (Ex.new h1)⟩
  by_cases q : a = p
  · subst q; rw [upd_same] at e; cases e; exact h2
  · rw [upd_ne q] at e; exact w.ex a u' e
theorem EL.e {m : Option (List α)} (h : EL te σ G W R m) : E te σ G W (rL R) m := fun x hx H e e' Q q => h x hx H e e' Q fun p H2 G2 hp u w => by
  obtain ⟨G3, u3, r3⟩ := frz1 hp u w
  exact q _ H2 G3 u3 r3
theorem Wd.lift {Gw G2 : Hp} {H : Hp} {cs : Cs} (w : Wd G2 H cs) (e : Ex G2 Gw) (e2 : Ex Gw H) (n : ∀ c ∈ cs, Gw c.1 = none) : Wd Gw H cs := ⟨e2, fun c h => by
  obtain ⟨h1, o, h2, h3⟩ := w.at_ c h
  exact ⟨n c h, o, h2, c.2.mono e h3⟩, w.nd⟩
theorem Up.lift' {G Gw H G2 H2 : Hp} (u : Up G H G2 H2) (e1 : Ex G Gw) (e2 : Ex Gw H) : ∃ G3, Up Gw H G3 H2 ∧ Ex G2 G3 ∧ ∀ a, H a = none → G2 a = none → G3 a = none := by
  refine ⟨fun a => match H a with | none => G2 a | some _ => Gw a, ⟨fun a o h => ?_, fun a o h => ?_, u.hh, fun a h1 h2 => ?_⟩, fun a o h => ?_, fun a h1 h2 => ?_⟩
  · show (match H a with | none => G2 a | some _ => Gw a) = some o
    rw [e2 a o h]; exact h
  · have h' : (match H a with | none => G2 a | some _ => Gw a) = some o := h
    cases q : H a with
    | none => rw [q] at h'; exact u.gh a o h'
    | some o' =>
      rw [q] at h'
      exact u.hh a o (e2 a o h')
  · show (match H a with | none => G2 a | some _ => Gw a) = none
    cases q : H a with
    | none => exact absurd q h1
    | some o' => exact h2
  · show (match H a with | none => G2 a | some _ => Gw a) = some o
    cases q : H a with
    | none => exact h
    | some o' =>
      show Gw a = some o
      cases r : G a with
      | none => rw [u.nw a (by rw [q]; simp) r] at h; cases h
      | some o2 =>
        have := u.gg a o2 r
        rw [h] at this
        cases this
        exact e1 a _ r
  · show (match H a with | none => G2 a | some _ => Gw a) = none
    rw [h1]; exact h2
theorem EL.mono {m : Option (List α)} (e : Ex G G') (e' : Ex W W') (h : EL te σ G W R m) : EL te σ G' W' R m := fun x hx H e1 e2 Q q => h x hx H (e.trans e1) (e'.trans e2) Q fun p H2 G2 hp u w => by
  obtain ⟨G3, u3, e3, n3⟩ := u.lift' e e1
  exact q p H2 G3 hp u3 (w.lift e3 u3.gh fun c hc => by
    cases List.mem_singleton.mp hc
    exact n3 p hp w.head.1)
theorem e_cb {r : List V → Hp → VK → Prop} {f : ι → Option γ} {ta : TA} {m : Option ι} (hr : RC r A T f) (ha : EA ta σ G W A m) : E (tCB r ta) σ G W T (m >>= f) := fun z hz H e e' Q q => by
  obtain ⟨i, hi, hz⟩ := bindS hz
  refine ha i hi H e e' _ fun vs H1 G1 u1 r1 => ?_
  exact hr vs i z H1 G1 r1 hz u1.gh Q fun u H2 G2 u2 r2 => q u H2 G2 (u1.trans u2) r2
theorem el_cb {r : List V → Hp → VK → Prop} {f : ι → Option (List γ)} {ta : TA} {m : Option ι} (hr : RCL r A T f) (ha : EA ta σ G W A m) : EL (tCB r ta) σ G W T (m >>= f) := fun z hz H e e' Q q => by
  obtain ⟨i, hi, hz⟩ := bindS hz
  refine ha i hi H e e' _ fun vs H1 G1 u1 r1 => ?_
  exact hr vs i z H1 G1 r1 hz u1.gh Q fun p H2 G2 hp u2 w => q p H2 G2 (fresh_back u1.hh hp) (u1.trans u2) w
theorem e_call {f : ι → Option γ} {ta : TA} {m : Option ι} {X : XK} (ha : EA ta σ G W A m) : E (tCall (PF A T f) [] X ta) σ G W T (m >>= f) := fun z hz H e e' Q q => by
  obtain ⟨i, hi, hz⟩ := bindS hz
  refine ha i hi H e e' _ fun vs H1 G1 u1 r1 => ?_
  rw [List.append_nil]
  exact ⟨G1, i, z, u1.gh, r1, hz, fun v H2 G2 u2 r2 => q v H2 G2 (u1.trans u2) r2⟩
theorem el_call {f : ι → Option (List γ)} {ta : TA} {m : Option ι} {X : XK} (ha : EA ta σ G W A m) : EL (tCall (PL A T f) [] X ta) σ G W T (m >>= f) := fun z hz H e e' Q q => by
  obtain ⟨i, hi, hz⟩ := bindS hz
  refine ha i hi H e e' _ fun vs H1 G1 u1 r1 => ?_
  rw [List.append_nil]
  exact ⟨G1, i, z, u1.gh, r1, hz, fun p H2 G2 hp u2 w => q p H2 G2 (fresh_back u1.hh hp) (u1.trans u2) w⟩

/-! ### built-ins -/
def sz (n : Nat) : Bool := decide (n < 100000)
theorem sz_le {n : Nat} (h : sz n = true) : n ≤ sizeLine := sz_of (Nat.le_of_lt (of_decide_eq_true h))
theorem sz_l {n : Nat} (h : sz n = true) : n < sizeLine := sz_lt (of_decide_eq_true h)
abbrev rLn (K : PySem.W.Frag) : List V → Hp → VK → Prop := fun xs H Q => ∃ p ys, xs = [.ref p] ∧ (SqL K H p ys ∨ SqT K H p ys) ∧ Q (.int ys.length) H
theorem rc_lenL : RC (rLn K) (aC (rL R) aN) rI (fun i => some (i.1.length : Int)) := fun vs i z H G hv hz e Q q => by
  cases hz
  obtain ⟨v, ws, rfl, ⟨a, us, rfl, h2, h3⟩, rfl⟩ := hv
  refine ⟨a, us, rfl, Or.inl (Or.inl (Or.inl (e a _ h2))), q _ H G (Up.refl e) ?_⟩
  show V.int _ = V.int _
  rw [h3.length]
theorem rc_lenT : RC (rLn K) (aC (rT R) aN) rI (fun i => some (i.1.length : Int)) := fun vs i z H G hv hz e Q q => by
  cases hz
  obtain ⟨v, ws, rfl, ⟨a, us, rfl, h2, h3⟩, rfl⟩ := hv
  refine ⟨a, us, rfl, Or.inr (Or.inl (Or.inl (e a _ h2))), q _ H G (Up.refl e) ?_⟩
  show V.int _ = V.int _
  rw [h3.length]
abbrev rLs (K : PySem.W.Frag) : List V → Hp → VK → Prop := fun xs H Q => ∃ p ys, xs = [.ref p] ∧ (SqL K H p ys ∨ SqT K H p ys) ∧ ∀ l, H l = none → Q (.ref l) (upd H l (.lst ys))
theorem wd_new {vs : List V} {xs : List α} {p : Addr} (e : Ex G H) (n : H p = none) (h : Paired (R.r G) vs xs) : Wd G (upd H p (.lst vs)) [(p, cL R xs)] := (Wd.nil e).new n ⟨vs, rfl, h⟩
theorem up_new {p : Addr} {o : HO} (e : Ex G H) (n : H p = none) : Up G H G (upd H p o) := Up.same e (Ex.new n)
theorem rc_listL : RCL (rLs K) (aC (rL R) aN) R (fun i => some i.1) := fun vs i z H G hv hz e Q q => by
  cases hz
  obtain ⟨v, ws, rfl, ⟨a, us, rfl, h2, h3⟩, rfl⟩ := hv
  exact ⟨a, us, rfl, Or.inl (Or.inl (Or.inl (e a _ h2))), fun l hl => q l _ G hl (up_new e hl) (wd_new e hl h3)⟩
theorem rc_listT : RCL (rLs K) (aC (rT R) aN) R (fun i => some i.1) := fun vs i z H G hv hz e Q q => by
  cases hz
  obtain ⟨v, ws, rfl, ⟨a, us, rfl, h2, h3⟩, rfl⟩ := hv
  exact ⟨a, us, rfl, Or.inr (Or.inl (Or.inl (e a _ h2))), fun l hl => q l _ G hl (up_new e hl) (wd_new e hl h3)⟩
abbrev rTp (K : PySem.W.Frag) : List V → Hp → VK → Prop := fun xs H Q => ∃ p ys, xs = [.ref p] ∧ ((SqL K H p ys ∧ ∀ l, H l = none → Q (.ref l) (upd H l (.tup ys))) ∨ (SqT K H p ys ∧ Q (.ref p) H))
theorem rc_tupleL : RC (rTp K) (aC (rL R) aN) (rT R) (fun i => some i.1) := fun vs i z H G hv hz e Q q => by
  cases hz
  obtain ⟨v, ws, rfl, ⟨a, us, rfl, h2, h3⟩, rfl⟩ := hv
  refine ⟨a, us, rfl, Or.inl ⟨Or.inl (Or.inl (e a _ h2)), fun l hl => q _ _ _ (Up.lay e hl) ⟨l, us, rfl, upd_same, Paired.mapP h3 fun _ _ => R.mono (Ex.new (fresh_back e hl))⟩⟩⟩
abbrev rAbs : List V → Hp → VK → Prop := fun xs H Q => ∃ i, xs = [.int i] ∧ Q (.int (if i < 0 then -i else i)) H
theorem rc_abs : RC rAbs (aC rI aN) rI (fun i => some (if i.1 < 0 then -i.1 else i.1)) := fun vs i z H G hv hz e Q q => by
  cases hz
  obtain ⟨v, ws, rfl, rfl, rfl⟩ := hv
  exact ⟨_, rfl, q _ H G (Up.refl e) rfl⟩
abbrev rMx : List V → Hp → VK → Prop := fun xs H Q => ∃ i j, xs = [.int i, .int j] ∧ Q (.int (if j > i then j else i)) H
abbrev rMn : List V → Hp → VK → Prop := fun xs H Q => ∃ i j, xs = [.int i, .int j] ∧ Q (.int (if j < i then j else i)) H
theorem rc_max2 : RC rMx (aC rI (aC rI aN)) rI (fun i => some (if i.2.1 > i.1 then i.2.1 else i.1)) := fun vs i z H G hv hz e Q q => by
  cases hz
  obtain ⟨v, ws, rfl, rfl, v2, ws2, rfl, rfl, rfl⟩ := hv
  exact ⟨_, _, rfl, q _ H G (Up.refl e) rfl⟩
theorem rc_min2 : RC rMn (aC rI (aC rI aN)) rI (fun i => some (if i.2.1 < i.1 then i.2.1 else i.1)) := fun vs i z H G hv hz e Q q => by
  cases hz
  obtain ⟨v, ws, rfl, rfl, v2, ws2, rfl, rfl, rfl⟩ := hv
  exact ⟨_, _, rfl, q _ H G (Up.refl e) rfl⟩
abbrev rInt : List V → Hp → VK → Prop := fun xs H Q => (∃ i, xs = [.int i] ∧ Q (.int i) H) ∨ ∃ k, xs = [.bl k] ∧ Q (.int (if k then 1 else 0)) H
theorem rc_intI : RC rInt (aC rI aN) rI (fun i => some i.1) := fun vs i z H G hv hz e Q q => by
  cases hz
  obtain ⟨v, ws, rfl, rfl, rfl⟩ := hv
  exact Or.inl ⟨_, rfl, q _ H G (Up.refl e) rfl⟩
theorem rc_intB : RC rInt (aC rB aN) rI (fun i => some (if i.1 then 1 else 0)) := fun vs i z H G hv hz e Q q => by
  cases hz
  obtain ⟨v, ws, rfl, rfl, rfl⟩ := hv
  exact Or.inr ⟨_, rfl, q _ H G (Up.refl e) rfl⟩
theorem pr_ints {H : Hp} : ∀ {vs : List V} {xs : List Int}, Paired (rI.r H) vs xs → vs = xs.map V.int
  | _, _, .nil => rfl
  | _, _, .cons r t => by rw [show _ = V.int _ from r, pr_ints t]; rfl
theorem ints_pr {H : Hp} : ∀ (xs : List Int), Paired (rI.r H) (xs.map V.int) xs
  | [] => .nil
  | x :: xs => .cons rfl (ints_pr xs)
/-- the sorted list, the least, the greatest: plain mirrors -/
def insI (x : Int) : List Int → List Int
  | [] => [x]
  | y :: ys => if x ≤ y then x :: y :: ys else y :: insI x ys
def srtI : List Int → List Int
  | [] => []
  | x :: xs => insI x (srtI xs)
theorem insI_perm (x : Int) : ∀ ys, (insI x ys).Perm (x :: ys)
  | [] => .refl _
  | y :: ys => by
    unfold insI
    split
    · exact .refl _
    · exact (List.Perm.cons y (insI_perm x ys)).trans (.swap x y ys)
theorem srtI_perm : ∀ xs, (srtI xs).Perm xs
  | [] => .refl _
  | x :: xs => (insI_perm x _).trans (.cons x (srtI_perm xs))
theorem insI_sorted (x : Int) : ∀ {ys : List Int}, ys.Pairwise (· ≤ ·) → (insI x ys).Pairwise (· ≤ ·)
  | [], _ => by simp [insI]
  | y :: ys, h => by
    unfold insI
    split
    · rename_i hxy
      refine List.pairwise_cons.mpr ⟨fun z hz => ?_, h⟩
      rcases List.mem_cons.mp hz with hz | hz
      · subst hz; exact hxy
      · exact Int.le_trans hxy ((List.pairwise_cons.mp h).1 z hz)
    · rename_i hxy
      refine List.pairwise_cons.mpr ⟨fun z hz => ?_, insI_sorted x (List.pairwise_cons.mp h).2⟩
      rcases List.mem_cons.mp ((insI_perm x ys).mem_iff.mp hz) with hz | hz
      · subst hz; omega
      · exact (List.pairwise_cons.mp h).1 z hz
theorem srtI_sorted : ∀ xs, (srtI xs).Pairwise (· ≤ ·)
  | [] => List.Pairwise.nil
  | x :: xs => insI_sorted x (srtI_sorted xs)
theorem srt_uniq : ∀ {xs ys : List Int}, xs.Perm ys → xs.Pairwise (· ≤ ·) → ys.Pairwise (· ≤ ·) → xs = ys
  | [], ys, p, _, _ => by simpa using p.symm.eq_nil
  | x :: xs, [], p, _, _ => by simpa using p.eq_nil
  | x :: xs, y :: ys, p, hx, hy => by
    have h1 : x ≤ y := by
      rcases List.mem_cons.mp (p.symm.subset (List.mem_cons_self ..) : y ∈ x :: xs) with h | h
      · omega
      · exact (List.pairwise_cons.mp hx).1 y h
    have h2 : y ≤ x := by
      rcases List.mem_cons.mp (p.subset (List.mem_cons_self ..) : x ∈ y :: ys) with h | h
      · omega
      · exact (List.pairwise_cons.mp hy).1 x h
    have e : x = y := by omega
    subst e
    rw [srt_uniq (List.Perm.cons_inv p) (List.pairwise_cons.mp hx).2 (List.pairwise_cons.mp hy).2]
theorem rc_sorted : RCL (rSorted K) (aC (rL rI) aN) rI (fun i => if i.1.length < 64 then some (srtI i.1) else none) := fun vs i z H G hv hz e Q q => by
  obtain ⟨v, ws, rfl, ⟨a, us, rfl, h2, h3⟩, rfl⟩ := hv
  have hz : (if i.1.length < 64 then some (srtI i.1) else none) = some z := hz
  split at hz
  · rename_i hl
    cases hz
    have h3' := pr_ints h3
    subst h3'
    refine ⟨a, i.1, rfl, Or.inl (Or.inl (e a _ h2)), hl, fun ns' p hp hs hn => ?_⟩
    have : ns' = srtI i.1 := srt_uniq (hp.trans (srtI_perm _).symm) hs (srtI_sorted _)
    subst this
    exact q p _ G hn (up_new e hn) (wd_new e hn (ints_pr _))
  · cases hz
def minL : List Int → Option Int
  | [] => none
  | [x] => some x
  | x :: y :: ys => (minL (y :: ys)).map fun m => if m < x then m else x
def maxL : List Int → Option Int
  | [] => none
  | [x] => some x
  | x :: y :: ys => (maxL (y :: ys)).map fun m => if m > x then m else x
theorem minL_ok : ∀ {xs : List Int} {m : Int}, minL xs = some m → m ∈ xs ∧ ∀ y ∈ xs, m ≤ y
  | [x], m, h => by cases h; exact ⟨List.mem_cons_self .., fun y hy => by rw [List.mem_singleton.mp hy]; exact Int.le_refl _⟩
  | x :: y :: ys, m, h => by
    unfold minL at h
    cases e : minL (y :: ys) with
    | none => rw [e] at h; cases h
    | some k =>
      obtain ⟨h1, h2⟩ := minL_ok e
      rw [e] at h
      have h' : (if k < x then k else x) = m := Option.some.inj h
      split at h'
      · subst h'
        exact ⟨List.mem_cons_of_mem _ h1, fun z hz => by
          rcases List.mem_cons.mp hz with hz | hz
          · omega
          · exact h2 z hz⟩
      · subst h'
        exact ⟨List.mem_cons_self .., fun z hz => by
          rcases List.mem_cons.mp hz with hz | hz
          · omega
          · have := h2 z hz; omega⟩
theorem maxL_ok : ∀ {xs : List Int} {m : Int}, maxL xs = some m → m ∈ xs ∧ ∀ y ∈ xs, y ≤ m
  | [x], m, h => by cases h; exact ⟨List.mem_cons_self .., fun y hy => by rw [List.mem_singleton.mp hy]; exact Int.le_refl _⟩
  | x :: y :: ys, m, h => by
    unfold maxL at h
    cases e : maxL (y :: ys) with
    | none => rw [e] at h; cases h
    | some k =>
      obtain ⟨h1, h2⟩ := maxL_ok e
      rw [e] at h
      have h' : (if k > x then k else x) = m := Option.some.inj h
      split at h'
      · subst h'
        exact ⟨List.mem_cons_of_mem _ h1, fun z hz => by
          rcases List.mem_cons.mp hz with hz | hz
          · omega
          · exact h2 z hz⟩
      · subst h'
        exact ⟨List.mem_cons_self .., fun z hz => by
          rcases List.mem_cons.mp hz with hz | hz
          · omega
          · have := h2 z hz; omega⟩
theorem rc_minL : RC (rMin K) (aC (rL rI) aN) rI (fun i => minL i.1) := fun vs i z H G hv hz e Q q => by
  obtain ⟨v, ws, rfl, ⟨a, us, rfl, h2, h3⟩, rfl⟩ := hv
  have h3' := pr_ints h3
  subst h3'
  obtain ⟨m1, m2⟩ := minL_ok hz
  refine ⟨a, i.1, rfl, Or.inl (Or.inl (e a _ h2)), List.length_pos_of_mem m1, fun m hm hle => ?_⟩
  have : m = z := by have := hle z m1; have := m2 m hm; omega
  subst this
  exact q _ H G (Up.refl e) rfl
theorem rc_maxL : RC (rMax K) (aC (rL rI) aN) rI (fun i => maxL i.1) := fun vs i z H G hv hz e Q q => by
  obtain ⟨v, ws, rfl, ⟨a, us, rfl, h2, h3⟩, rfl⟩ := hv
  have h3' := pr_ints h3
  subst h3'
  obtain ⟨m1, m2⟩ := maxL_ok hz
  refine ⟨a, i.1, rfl, Or.inl (Or.inl (e a _ h2)), List.length_pos_of_mem m1, fun m hm hle => ?_⟩
  have : m = z := by have := hle z m1; have := m2 m hm; omega
  subst this
  exact q _ H G (Up.refl e) rfl

/-! ### displays -/
theorem el_lst {ta : TA} {B : AR ι} {m : Option ι} {xs : ι → List α} (h : EA ta σ G W B m) (hb : ∀ G vs i, B.r G vs i → Paired (R.r G) vs (xs i)) (hl : ∀ i, (xs i).length < 100000) : EL (tLst ta) σ G W R (m >>= fun i => some (xs i)) := fun z hz H e e' Q q => by
  obtain ⟨i, hi, hz⟩ := bindS hz
  cases hz
  refine h i hi H e e' _ fun vs H1 G1 u1 r1 => ?_
  have pr := hb _ _ _ r1
  refine ⟨sz_of (by rw [pr.length]; exact Nat.le_of_lt (hl i)), fun p hp => q p _ G1 (fresh_back u1.hh hp) (u1.trans (up_new u1.gh hp)) (wd_new u1.gh hp pr)⟩
theorem e_pair {ma : Option α} {mb : Option β} (ha : E ta σ G W R ma) (hb : E tb σ G W S mb) : E (tTup (tCons ta (tCons tb tNil))) σ G W (rP R S) (ma >>= fun x => mb >>= fun y => some (x, y)) := fun z hz H e e' Q q => by
  obtain ⟨x, hx, hz⟩ := bindS hz
  obtain ⟨y, hy, hz⟩ := bindS hz
  cases hz
  refine ha x hx H e e' _ fun v H1 G1 u1 r1 => ?_
  refine (hb.mono u1.gg (e'.trans u1.hh)) y hy H1 u1.gh (Ex.refl _) _ fun w H2 G2 u2 r2 => ?_
  refine ⟨by show 2 ≤ sizeLine; decide, fun p hp => q _ _ _ ((u1.trans u2).trans (Up.lay u2.gh hp)) ⟨p, v, w, rfl, upd_same, R.mono (u2.gg.trans (Ex.new (fresh_back u2.gh hp))) r1, S.mono (Ex.new (fresh_back u2.gh hp)) r2⟩⟩
end
end Sim

namespace Sim
open PySem L2 Evl

/-! ### mirrors of loops -/
inductive Stp (σ ρ : Type) where
  | nx (s : σ)
  | br (s : σ)
  | rt (r : ρ)
section
variable {α σ ρ : Type}
def stpK (k : σ → Option (σ ⊕ ρ)) : Stp σ ρ → Option (σ ⊕ ρ)
  | .nx s => k s
  | .br s => some (.inl s)
  | .rt r => some (.inr r)
def forL (body : α → σ → Option (Stp σ ρ)) : List α → σ → Option (σ ⊕ ρ)
  | [], s => some (.inl s)
  | x :: xs, s => body x s >>= stpK (forL body xs)
def forS (body : α → σ → Option σ) : List α → σ → Option σ
  | [], s => some s
  | x :: xs, s => body x s >>= forS body xs
def whL (c : σ → Option Bool) (body : σ → Option (Stp σ ρ)) : Nat → σ → Option (σ ⊕ ρ)
  | 0, _ => none
  | n + 1, s => c s >>= fun b => bif b then body s >>= stpK (whL c body n) else some (.inl s)
theorem drop_at {xs : List α} {i : Nat} {x : α} (h : xs[i]? = some x) : xs.drop i = x :: xs.drop (i + 1) := by
  obtain ⟨hl, e⟩ := List.getElem?_eq_some_iff.mp h
  rw [List.drop_eq_getElem_cons hl, e]
theorem forL_at {body : α → σ → Option (Stp σ ρ)} {xs : List α} {i : Nat} {x : α} {s : σ} {r : σ ⊕ ρ} (h : xs[i]? = some x) (hm : forL body (xs.drop i) s = some r) :
    ∃ t, body x s = some t ∧ stpK (forL body (xs.drop (i + 1))) t = some r := by
  rw [drop_at h] at hm
  exact bindS hm
theorem forL_end {body : α → σ → Option (Stp σ ρ)} {xs : List α} {s : σ} {r : σ ⊕ ρ} (hm : forL body (xs.drop xs.length) s = some r) : .inl s = r := by
  rw [List.drop_length] at hm
  exact Option.some.inj hm
theorem forS_at {body : α → σ → Option σ} {xs : List α} {i : Nat} {x : α} {s r : σ} (h : xs[i]? = some x) (hm : forS body (xs.drop i) s = some r) :
    ∃ t, body x s = some t ∧ forS body (xs.drop (i + 1)) t = some r := by
  rw [drop_at h] at hm
  exact bindS hm
theorem forS_end {body : α → σ → Option σ} {xs : List α} {s r : σ} (hm : forS body (xs.drop xs.length) s = some r) : s = r := by
  rw [List.drop_length] at hm
  exact Option.some.inj hm
end
/-- range(lo, hi) -/
def rng (lo hi : Int) : List Int := (List.range (hi - lo).toNat).map fun (i : Nat) => lo + (i : Int)
theorem rng_at {lo hi : Int} {i : Nat} {x : Int} (h : (rng lo hi)[i]? = some x) : x = lo + i ∧ lo + i < hi := by
  unfold rng at h
  rw [List.getElem?_map] at h
  cases e : (List.range (hi - lo).toNat)[i]? with
  | none => rw [e] at h; cases h
  | some k =>
    rw [e] at h
    obtain ⟨hl, ek⟩ := List.getElem?_eq_some_iff.mp e
    rw [List.getElem_range] at ek
    rw [List.length_range] at hl
    subst ek
    exact ⟨(Option.some.inj h).symm, by omega⟩
theorem rng_get {lo hi : Int} {i : Nat} (h : i < (hi - lo).toNat) : (rng lo hi)[i]? = some (lo + i) := by
  unfold rng
  rw [List.getElem?_map, List.getElem?_range h]
  rfl
theorem rng_len (lo hi : Int) : (rng lo hi).length = (hi - lo).toNat := by
  unfold rng
  rw [List.length_map, List.length_range]
def rngM (lo hi : Int) : Option (List Int) := if -100000 ≤ lo ∧ lo ≤ 100000 ∧ -100000 ≤ hi ∧ hi ≤ 100000 then some (rng lo hi) else none

/-! ### the world of a def -/
structure Wo (G0 H0 : Hp) (ls : List Addr) (G H : Hp) (cs : Cs) : Prop where
  w : Wd G H cs
  f : Fr G0 H0 G H ls
  lo : ∀ c ∈ cs, c.1 ∈ ls ∨ H0 c.1 = none
section
variable {K : PySem.W.Frag} {σ : L2.St} {G0 H0 G H G2 H2 : Hp} {ls : List Addr} {cs : Cs} {l : Addr} {cp cp' : CP} {ta tb te tc : TE} {t u : TT} {α β γ ι κ : Type} {R : Rep α} {S : Rep β} {T : Rep γ} {A : AR ι}
theorem Wo.ex (w : Wo G0 H0 ls G H cs) : Ex G H := w.w.ex
theorem Wo.up (w : Wo G0 H0 ls G H cs) (u : Up G H G2 H2) : Wo G0 H0 ls G2 H2 cs := ⟨w.w.up u, w.f.trans u.fr, w.lo⟩
theorem Wo.sc (w : Wo G0 H0 ls G H cs) (u : Ex H H2) : Wo G0 H0 ls G H2 cs := w.up (Up.same w.ex u)
theorem Wo.start (e : Ex G H) : Wo G H [] G H [] := ⟨Wd.nil e, Fr.refl, fun _ h => absurd h List.not_mem_nil⟩
theorem Wo.startC (w : Wd G H cs) : Wo G H (cs.map (·.1)) G H cs := ⟨w, Fr.refl, fun c h => .inl (List.mem_map_of_mem (f := (·.1)) h)⟩
/-- the i-th cell -/
theorem Wd.getAt {i : Nat} (w : Wd G H cs) (h : cs[i]? = some (l, cp)) : G l = none ∧ ∃ o, H l = some o ∧ cp.p G o := w.at_ _ (List.mem_of_getElem? h)
theorem Wo.rlAt {i : Nat} {xs : List α} (w : Wo G0 H0 ls G H cs) (h : cs[i]? = some (l, cL R xs)) : (rL R).r H (.ref l) xs := by
  obtain ⟨h1, o, h2, vs, rfl, h3⟩ := w.w.getAt h
  exact ⟨l, vs, rfl, h2, Paired.mapP h3 fun _ _ => R.mono w.ex⟩
theorem set_map {i : Nat} {c : Addr × CP} (h : cs[i]? = some c) : (cs.set i (c.1, cp')).map (·.1) = cs.map (·.1) := by
  rw [List.map_set]
  have : (cs.map (·.1))[i]? = some c.1 := by rw [List.getElem?_map, h]; rfl
  obtain ⟨hl, e⟩ := List.getElem?_eq_some_iff.mp this
  conv => lhs; rw [← e]
  exact List.set_getElem_self hl
theorem nodup_ix {as : List Addr} (nd : as.Nodup) {i j : Nat} {x : Addr} (h1 : as[i]? = some x) (h2 : as[j]? = some x) : i = j := by
  obtain ⟨a1, a2⟩ := List.getElem?_eq_some_iff.mp h1
  obtain ⟨b1, b2⟩ := List.getElem?_eq_some_iff.mp h2
  have p := List.pairwise_iff_getElem.mp nd
  rcases Nat.lt_trichotomy i j with q | q | q
  · exact absurd (a2.trans b2.symm) (p i j a1 b1 q)
  · exact q
  · exact absurd (b2.trans a2.symm) (p j i b1 a1 q)
theorem mem_set_cell {i : Nat} {c : Addr × CP} (nd : (cs.map (·.1)).Nodup) (h : cs[i]? = some (l, cp)) (hc : c ∈ cs.set i (l, cp')) : c = (l, cp') ∨ (c ∈ cs ∧ c.1 ≠ l) := by
  obtain ⟨j, hj, e⟩ := List.getElem_of_mem hc
  by_cases q : i = j
  · subst q; left; rw [← e]; simp
  · right
    rw [List.getElem_set_ne q] at e
    have hj' : j < cs.length := by rw [List.length_set] at hj; exact hj
    refine ⟨e ▸ List.getElem_mem hj', fun z => q ?_⟩
    have h1 : (cs.map (·.1))[i]? = some l := by rw [List.getElem?_map, h]; rfl
    have h2 : (cs.map (·.1))[j]? = some l := by rw [List.getElem?_map, List.getElem?_eq_getElem hj', e]; exact congrArg some z
    exact nodup_ix nd h1 h2
theorem Fr.put (f : Fr G0 H0 G H ls) {o : HO} (h : l ∈ ls ∨ H0 l = none) : Fr G0 H0 G (upd H l o) ls := ⟨f.gg, fun a u h1 h2 => by
  have ne : a ≠ l := fun z => by
    subst z
    rcases h with h | h
    · exact h2 h
    · rw [h] at h1; cases h1
  rw [upd_ne ne]; exact f.fr a u h1 h2, f.nw, fun a h1 => by
  by_cases q : a = l
  · subst q; rw [upd_same]; simp
  · rw [upd_ne q]; exact f.st a h1⟩
theorem Wo.writeAt {i : Nat} (w : Wo G0 H0 ls G H cs) (h : cs[i]? = some (l, cp)) {o : HO} (hp : cp'.p G o) : Wo G0 H0 ls G (upd H l o) (cs.set i (l, cp')) := by
  obtain ⟨h1, o1, h2, h3⟩ := w.w.getAt h
  have hl : l ∈ ls ∨ H0 l = none := w.lo _ (List.mem_of_getElem? h)
  refine ⟨⟨fun a u e => ?_, fun c hc => ?_, ?_⟩, w.f.put hl, fun c hc => ?_⟩
  · rw [upd_ne (fun z => by subst z; rw [h1] at e; cases e)]; exact w.ex a u e
  · rcases mem_set_cell w.w.nd h hc with hc | ⟨hc, ne⟩
    · subst hc; exact ⟨h1, o, upd_same, hp⟩
    · obtain ⟨k1, o', k2, k3⟩ := w.w.at_ c hc
      exact ⟨k1, o', by rw [upd_ne ne]; exact k2, k3⟩
  · rw [set_map (c := (l, cp)) h]; exact w.w.nd
  · rcases mem_set_cell w.w.nd h hc with hc | ⟨hc, ne⟩
    · subst hc; exact hl
    · exact w.lo c hc
theorem Wo.new (w : Wo G0 H0 ls G H cs) {o : HO} (n : H l = none) (h : cp.p G o) : Wo G0 H0 ls G (upd H l o) ((l, cp) :: cs) := by
  have n0 : H0 l = none := by
    cases q : H0 l with
    | none => rfl
    | some o => exact absurd n (w.f.st l (by rw [q]; simp))
  exact ⟨w.w.new n h, w.f.put (.inr n0), fun c hc => by
    rcases List.mem_cons.mp hc with hc | hc
    · subst hc; exact .inr n0
    · exact w.lo c hc⟩
/-- a new list made by an expression becomes a cell -/
theorem Wo.newL {p : Addr} {xs : List α} (w : Wo G0 H0 ls G H cs) (n : H p = none) (u : Up G H G2 H2) (w2 : Wd G2 H2 [(p, cL R xs)]) : Wo G0 H0 ls G2 H2 ((p, cL R xs) :: cs) := by
  have n0 : H0 p = none := by
    cases q : H0 p with
    | none => rfl
    | some o => exact absurd n (w.f.st p (by rw [q]; simp))
  have w3 := w.up u
  refine ⟨⟨w3.ex, fun c hc => ?_, ?_⟩, w3.f, fun c hc => ?_⟩
  · rcases List.mem_cons.mp hc with hc | hc
    · subst hc; exact w2.head
    · exact w3.w.at_ c hc
  · refine List.nodup_cons.mpr ⟨fun hm => ?_, w.w.nd⟩
    obtain ⟨c, hc, e⟩ := List.mem_map.mp hm
    obtain ⟨_, o', h2, _⟩ := w.w.at_ c hc
    exact ne_of_none h2 n e
  · rcases List.mem_cons.mp hc with hc | hc
    · subst hc; exact .inr n0
    · exact w.lo c hc
theorem Wo.dropAt (w : Wo G0 H0 ls G H cs) (i : Nat) : Wo G0 H0 ls G H (cs.eraseIdx i) := ⟨⟨w.ex, fun c hc => w.w.at_ c (List.mem_of_mem_eraseIdx hc), 
  List.Pairwise.sublist ((List.eraseIdx_sublist cs i).map (·.1)) w.w.nd⟩, w.f, fun c hc => w.lo c (List.mem_of_mem_eraseIdx hc)⟩
/-- a list cell of the def's own becomes data -/
theorem Wo.freezeAt {i : Nat} {xs : List α} (w : Wo G0 H0 ls G H cs) (h : cs[i]? = some (l, cL R xs)) (hl : H0 l = none) : ∃ G2, Wo G0 H0 ls G2 H (cs.eraseIdx i) ∧ Ex G G2 ∧ (rL R).r G2 (.ref l) xs := by
  obtain ⟨h1, o, h2, vs, rfl, h3⟩ := w.w.getAt h
  refine ⟨upd G l (.lst vs), ⟨⟨fun a u e => ?_, fun c hc => ?_, ?_⟩, ⟨w.f.gg.trans (Ex.new h1), w.f.fr, fun a k1 k2 => ?_, w.f.st⟩, fun c hc => w.lo c (List.mem_of_mem_eraseIdx hc)⟩, Ex.new h1, l, vs, rfl, upd_same, Paired.mapP h3 fun _ _ => R.mono (Ex.new h1)⟩
  · by_cases q : a = l
    · subst q; rw [upd_same] at e; cases e; exact h2
    · rw [upd_ne q] at e; exact w.ex a u e
  · obtain ⟨k1, o', k2, k3⟩ := w.w.at_ c (List.mem_of_mem_eraseIdx hc)
    obtain ⟨j, hj, e⟩ := List.getElem?_of_mem hc |>.imp fun _ h => (⟨trivial, h⟩ : True ∧ _)
    have ne : c.1 ≠ l := fun z => by
      rw [List.getElem?_eraseIdx] at e
      have hi : (cs.map (·.1))[i]? = some l := by rw [List.getElem?_map, h]; rfl
      split at e
      · rename_i hlt
        have : (cs.map (·.1))[j]? = some l := by rw [List.getElem?_map, e]; exact congrArg some z
        have := nodup_ix w.w.nd hi this
        omega
      · rename_i hlt
        have : (cs.map (·.1))[j + 1]? = some l := by rw [List.getElem?_map, e]; exact congrArg some z
        have := nodup_ix w.w.nd hi this
        omega
    exact ⟨by rw [upd_ne ne]; exact k1, o', k2, c.2.mono (Ex.new h1) k3⟩
  · exact List.Pairwise.sublist ((List.eraseIdx_sublist cs i).map (·.1)) w.w.nd
  · have ne : a ≠ l := fun z => by subst z; exact k1 hl
    rw [upd_ne ne]; exact w.f.nw a k1 k2
/-- behind a call that changed the i-th cell alone -/
theorem Wo.call1 {i : Nat} (w : Wo G0 H0 ls G H cs) (h : cs[i]? = some (l, cp)) (f : Fr G H G2 H2 [l]) (w2 : Wd G2 H2 [(l, cp')]) : Wo G0 H0 ls G2 H2 (cs.set i (l, cp')) := by
  have hl : l ∈ ls ∨ H0 l = none := w.lo _ (List.mem_of_getElem? h)
  refine ⟨⟨w2.ex, fun c hc => ?_, by rw [set_map (c := (l, cp)) h]; exact w.w.nd⟩, ⟨w.f.gg.trans f.gg, fun a o h1 h2 => ?_, fun a h1 h2 => f.nw a (w.f.st a h1) (w.f.nw a h1 h2), fun a h1 => f.st a (w.f.st a h1)⟩, fun c hc => ?_⟩
  · rcases mem_set_cell w.w.nd h hc with hc | ⟨hc, ne⟩
    · subst hc; exact w2.head
    · obtain ⟨k1, o', k2, k3⟩ := w.w.at_ c hc
      exact ⟨f.nw _ (by rw [k2]; simp) k1, o', f.fr _ _ k2 (fun z => ne (List.mem_singleton.mp z)), c.2.mono f.gg k3⟩
  · refine f.fr a o (w.f.fr a o h1 h2) fun z => ?_
    rw [List.mem_singleton.mp z] at h1 h2
    rcases hl with q | q
    · exact h2 q
    · rw [q] at h1; cases h1
  · rcases mem_set_cell w.w.nd h hc with hc | ⟨hc, ne⟩
    · subst hc; exact hl
    · exact w.lo c hc
theorem Wo.sub1 {i : Nat} (w : Wo G0 H0 ls G H cs) (h : cs[i]? = some (l, cp)) : Wd G H [(l, cp)] := ⟨w.ex, fun c hc => by
  rw [List.mem_singleton.mp hc]; exact w.w.at_ _ (List.mem_of_getElem? h), List.nodup_cons.mpr ⟨List.not_mem_nil, List.nodup_nil⟩⟩
/-- the ends of a def -/
theorem Wo.upE (w : Wo G0 H0 [] G H cs) : Up G0 H0 G H := ⟨w.f.gg, w.ex, fun a o h => w.f.fr a o h List.not_mem_nil, w.f.nw⟩
end
end Sim

namespace Sim
open PySem L2 Evl
section
variable {K : PySem.W.Frag} {σ : L2.St} {G0 H0 G H G2 H2 W : Hp} {ls : List Addr} {cs : Cs} {l : Addr} {cp cp' : CP} {ta tb te tc : TE} {t u : TT} {α β γ ι κ : Type} {R : Rep α} {S : Rep β} {T : Rep γ} {A : AR ι} {D : Ends} {tu tv tz : TS} {g : TG}

/-! ### expressions in the world -/
theorem c_e {m : Option α} {x : α} {Q : VK} (w : Wo G0 H0 ls G H cs) (h : E te σ G H R m) (hm : m = some x) (k : ∀ v H2 G2, Wo G0 H0 ls G2 H2 cs → Ex G G2 → R.r G2 v x → Q v H2) : te σ H Q :=
  h x hm H w.ex (Ex.refl _) Q fun v H2 G2 u r => k v H2 G2 (w.up u) u.gg r
/-- scalars: the value is written out, the data heap stays -/
theorem c_i {m : Option Int} {x : Int} {Q : VK} (w : Wo G0 H0 ls G H cs) (h : E te σ G H rI m) (hm : m = some x) (k : ∀ H2, Wo G0 H0 ls G H2 cs → Q (.int x) H2) : te σ H Q :=
  h x hm H w.ex (Ex.refl _) Q fun v H2 G2 u r => by cases r; exact k H2 (w.sc u.hh)
theorem c_b {m : Option Bool} {x : Bool} {Q : VK} (w : Wo G0 H0 ls G H cs) (h : E te σ G H rB m) (hm : m = some x) (k : ∀ H2, Wo G0 H0 ls G H2 cs → Q (.bl x) H2) : te σ H Q :=
  h x hm H w.ex (Ex.refl _) Q fun v H2 G2 u r => by cases r; exact k H2 (w.sc u.hh)
theorem c_s {m : Option Str} {x : Str} {Q : VK} (w : Wo G0 H0 ls G H cs) (h : E te σ G H rS m) (hm : m = some x) (k : ∀ H2, Wo G0 H0 ls G H2 cs → Q (.str x) H2) : te σ H Q :=
  h x hm H w.ex (Ex.refl _) Q fun v H2 G2 u r => by cases r; exact k H2 (w.sc u.hh)
theorem c_l {m : Option (List α)} {x : List α} {Q : VK} (w : Wo G0 H0 ls G H cs) (h : EL te σ G H R m) (hm : m = some x) (k : ∀ p H2 G2, H0 p = none → Wo G0 H0 ls G2 H2 ((p, cL R x) :: cs) → Ex G G2 → Q (.ref p) H2) : te σ H Q :=
  h x hm H w.ex (Ex.refl _) Q fun p H2 G2 hp u w2 => k p H2 G2 (by
    cases q : H0 p with
    | none => rfl
    | some o => exact absurd hp (w.f.st p (by rw [q]; simp))) (w.newL hp u w2) u.gg
theorem c_t {m : Option Bool} {b : Bool} {Q : Bool → Hp → Prop} (w : Wo G0 H0 ls G H cs) (h : ET t σ H m) (hm : m = some b) (k : ∀ H2, Wo G0 H0 ls G H2 cs → Q b H2) : t σ H Q :=
  h b hm H (Ex.refl _) Q fun H2 e => k H2 (w.sc e)
theorem c_a {m : Option ι} {x : ι} {ta : TA} {Q : List V → Hp → Prop} (w : Wo G0 H0 ls G H cs) (h : EA ta σ G H A m) (hm : m = some x) (k : ∀ vs H2 G2, Wo G0 H0 ls G2 H2 cs → Ex G G2 → A.r G2 vs x → Q vs H2) : ta σ H Q :=
  h x hm H w.ex (Ex.refl _) Q fun v H2 G2 u r => k v H2 G2 (w.up u) u.gg r
/-- an operation on values that stand -/
theorem c_rr {r : R2} {f : α → β → Option γ} {v w' : V} {x : α} {y : β} {z : γ} {Q : VK} (hr : RR r R S T f) (w : Wo G0 H0 ls G H cs) (hv : R.r G v x) (hw : S.r G w' y) (hz : f x y = some z)
    (k : ∀ u H2 G2, Wo G0 H0 ls G2 H2 cs → Ex G G2 → T.r G2 u z → Q u H2) : r v w' H Q := hr v w' x y z H G hv hw hz w.ex Q fun u H2 G2 up r => k u H2 G2 (w.up up) up.gg r
theorem c_rc {r : List V → Hp → VK → Prop} {f : ι → Option γ} {vs : List V} {i : ι} {z : γ} {Q : VK} (hr : RC r A T f) (w : Wo G0 H0 ls G H cs) (hv : A.r G vs i) (hz : f i = some z)
    (k : ∀ u H2 G2, Wo G0 H0 ls G2 H2 cs → Ex G G2 → T.r G2 u z → Q u H2) : r vs H Q := hr vs i z H G hv hz w.ex Q fun u H2 G2 up r => k u H2 G2 (w.up up) up.gg r
theorem c_rcl {r : List V → Hp → VK → Prop} {f : ι → Option (List γ)} {vs : List V} {i : ι} {z : List γ} {Q : VK} (hr : RCL r A T f) (w : Wo G0 H0 ls G H cs) (hv : A.r G vs i) (hz : f i = some z)
    (k : ∀ p H2 G2, H0 p = none → Wo G0 H0 ls G2 H2 ((p, cL T z) :: cs) → Ex G G2 → Q (.ref p) H2) : r vs H Q := hr vs i z H G hv hz w.ex Q fun p H2 G2 hp u w2 => k p H2 G2 (by
    cases q : H0 p with
    | none => rfl
    | some o => exact absurd hp (w.f.st p (by rw [q]; simp))) (w.newL hp u w2) u.gg

/-! ### a def that changes one cell -/
/-- (l, more) with the cell's items ys: f ys more = (x, ys') -/
abbrev P1 {κ α ι : Type} (A : AR ι) (C : Rep κ) (R : Rep α) (f : List κ → ι → Option (α × List κ)) : Sp := PM (aC rA A) (fun i k => [(i.1, cL C k)]) R (fun i k => f k i.2)
abbrev P1L {κ α ι : Type} (A : AR ι) (C : Rep κ) (R : Rep α) (f : List κ → ι → Option (List α × List κ)) : Sp := PML (aC rA A) (fun i k => [(i.1, cL C k)]) R (fun i k => f k i.2)
theorem c_p1 {C : Rep κ} {f : List κ → ι → Option (α × List κ)} {vs : List V} {i : Nat} {j : ι} {ys ys' : List κ} {x : α} {Q : VK} {X : XK} (w : Wo G0 H0 ls G H cs) (hc : cs[i]? = some (l, cL C ys)) (hv : A.r G vs j) (hz : f ys j = some (x, ys'))
    (k : ∀ v H2 G2, Wo G0 H0 ls G2 H2 (cs.set i (l, cL C ys')) → Ex G G2 → R.r G2 v x → Q v H2) : P1 A C R f (.ref l :: vs) H Q X :=
  ⟨G, (l, j), ys, x, ys', ⟨.ref l, vs, rfl, rfl, hv⟩, w.sub1 hc, hz, fun v H2 G2 fr w2 r => k v H2 G2 (w.call1 hc fr w2) fr.gg r⟩
theorem Wo.call1L {i : Nat} {p : Addr} {cq : CP} (w : Wo G0 H0 ls G H cs) (h : cs[i]? = some (l, cp)) (hp : H p = none) (f : Fr G H G2 H2 [l]) (w2 : Wd G2 H2 [(p, cq), (l, cp')]) : Wo G0 H0 ls G2 H2 ((p, cq) :: cs.set i (l, cp')) := by
  have n0 : H0 p = none := by
    cases q : H0 p with
    | none => rfl
    | some o => exact absurd hp (w.f.st p (by rw [q]; simp))
  have w3 := w.call1 h f w2.tail
  refine ⟨⟨w3.ex, fun c hc => ?_, ?_⟩, w3.f, fun c hc => ?_⟩
  · rcases List.mem_cons.mp hc with hc | hc
    · subst hc; exact w2.head
    · exact w3.w.at_ c hc
  · refine List.nodup_cons.mpr ⟨fun hm => ?_, w3.w.nd⟩
    rw [Sim.set_map (c := (l, cp)) h] at hm
    obtain ⟨c, hc, e⟩ := List.mem_map.mp hm
    obtain ⟨_, o', h2, _⟩ := w.w.at_ c hc
    exact ne_of_none h2 hp e
  · rcases List.mem_cons.mp hc with hc | hc
    · subst hc; exact .inr n0
    · exact w3.lo c hc
theorem c_p1l {C : Rep κ} {f : List κ → ι → Option (List α × List κ)} {vs : List V} {i : Nat} {j : ι} {ys ys' : List κ} {x : List α} {Q : VK} {X : XK} (w : Wo G0 H0 ls G H cs) (hc : cs[i]? = some (l, cL C ys)) (hv : A.r G vs j) (hz : f ys j = some (x, ys'))
    (k : ∀ p H2 G2, H0 p = none → Wo G0 H0 ls G2 H2 ((p, cL R x) :: cs.set i (l, cL C ys')) → Ex G G2 → Q (.ref p) H2) : P1L A C R f (.ref l :: vs) H Q X :=
  ⟨G, (l, j), ys, x, ys', ⟨.ref l, vs, rfl, rfl, hv⟩, w.sub1 hc, hz, fun p H2 G2 hp fr w2 => k p H2 G2 (by
    cases q : H0 p with
    | none => rfl
    | some o => exact absurd hp (w.f.st p (by rw [q]; simp))) (w.call1L hc hp fr w2) fr.gg⟩

/-! ### readings opened -/
theorem o_nil {Q : List V → Hp → Prop} (h : Q [] H) : tNil σ H Q := h
theorem o_cons {tr : TA} {Q : List V → Hp → Prop} (h : ta σ H fun x H1 => tr σ H1 fun xs H2 => Q (x :: xs) H2) : tCons ta tr σ H Q := h
theorem o_op {r : R2} {Q : VK} (h : ta σ H fun x H1 => tb σ H1 fun y H2 => r x y H2 Q) : tOp r ta tb σ H Q := h
theorem o_call {sp : Sp} {X : XK} {ta : TA} {Q : VK} (h : ta σ H fun vs H1 => sp vs H1 Q X) : tCall sp [] X ta σ H Q := by
  show ta σ H fun vs H1 => sp (vs ++ []) H1 Q X
  have : (fun (vs : List V) (H1 : Hp) => sp (vs ++ []) H1 Q X) = fun vs H1 => sp vs H1 Q X := by funext vs H1; rw [List.append_nil]
  rw [this]; exact h
theorem o_cb {r : List V → Hp → VK → Prop} {ta : TA} {Q : VK} (h : ta σ H fun vs H1 => r vs H1 Q) : tCB r ta σ H Q := h
theorem o_var {i : Nat} {v : V} {Q : VK} (hi : σ[i]? = some (some v)) (h : Q v H) : tVar i σ H Q := ⟨v, hi, h⟩
theorem o_T {Q : Bool → Hp → Prop} (h : te σ H fun v H1 => ∃ b, v = .bl b ∧ Q b H1) : tTest te σ H Q := h
theorem o_B {Q : Bool → Hp → Prop} (h : te σ H fun v H1 => ∃ b, v = .bl b ∧ Q b H1) : tB te σ H Q := h

/-! ### statements -/
theorem x_next {f b c : L2.St → Hp → Prop} {r : VK} (h : f σ H) : tNext { nx := f, rt := r, bk := b, ct := c } σ H := h
theorem x_set {i : Nat} {m : Option α} {x : α} (w : Wo G0 H0 ls G H cs) (h : E te σ G H R m) (hm : m = some x) (k : ∀ v H2 G2, Wo G0 H0 ls G2 H2 cs → Ex G G2 → R.r G2 v x → tz D (σ.set i (some v)) H2) : tSeq (tAsg te (gName i)) tz D σ H :=
  c_e (Q := fun x H1 => gName i x σ H1 (tz D)) w h hm k
theorem x_setI {i : Nat} {m : Option Int} {x : Int} (w : Wo G0 H0 ls G H cs) (h : E te σ G H rI m) (hm : m = some x) (k : ∀ H2, Wo G0 H0 ls G H2 cs → tz D (σ.set i (some (.int x))) H2) : tSeq (tAsg te (gName i)) tz D σ H :=
  c_i (Q := fun x H1 => gName i x σ H1 (tz D)) w h hm k
theorem x_setB {i : Nat} {m : Option Bool} {x : Bool} (w : Wo G0 H0 ls G H cs) (h : E te σ G H rB m) (hm : m = some x) (k : ∀ H2, Wo G0 H0 ls G H2 cs → tz D (σ.set i (some (.bl x))) H2) : tSeq (tAsg te (gName i)) tz D σ H :=
  c_b (Q := fun x H1 => gName i x σ H1 (tz D)) w h hm k
theorem x_setS {i : Nat} {m : Option Str} {x : Str} (w : Wo G0 H0 ls G H cs) (h : E te σ G H rS m) (hm : m = some x) (k : ∀ H2, Wo G0 H0 ls G H2 cs → tz D (σ.set i (some (.str x))) H2) : tSeq (tAsg te (gName i)) tz D σ H :=
  c_s (Q := fun x H1 => gName i x σ H1 (tz D)) w h hm k
theorem x_setL {i : Nat} {m : Option (List α)} {x : List α} (w : Wo G0 H0 ls G H cs) (h : EL te σ G H R m) (hm : m = some x) (k : ∀ p H2 G2, H0 p = none → Wo G0 H0 ls G2 H2 ((p, cL R x) :: cs) → Ex G G2 → tz D (σ.set i (some (.ref p))) H2) : tSeq (tAsg te (gName i)) tz D σ H :=
  c_l (Q := fun x H1 => gName i x σ H1 (tz D)) w h hm k
/-- name = an expression that changes cells: opened -/
theorem x_setO {i : Nat} (h : te σ H fun v H1 => tz D (σ.set i (some v)) H1) : tSeq (tAsg te (gName i)) tz D σ H := h
theorem x_if {m : Option Bool} {b : Bool} (w : Wo G0 H0 ls G H cs) (h : ET t σ H m) (hm : m = some b) (h1 : b = true → ∀ H2, Wo G0 H0 ls G H2 cs → tu { D with nx := tz D } σ H2) (h2 : b = false → ∀ H2, Wo G0 H0 ls G H2 cs → tv { D with nx := tz D } σ H2) :
    tSeq (tIfS t tu tv) tz D σ H := c_t (Q := fun b H1 => if b = true then tu { D with nx := tz D } σ H1 else tv { D with nx := tz D } σ H1) w h hm fun H2 w2 => by
  cases b with
  | true => exact h1 rfl H2 w2
  | false => exact h2 rfl H2 w2
/-- an if whose test changes cells -/
theorem x_ifO {b : Bool → Prop} (h : t σ H fun b H1 => (b = true → tu { D with nx := tz D } σ H1) ∧ (b = false → tv { D with nx := tz D } σ H1)) (mono : ∀ Q Q' : Bool → Hp → Prop, (∀ b H, Q b H → Q' b H) → t σ H Q → t σ H Q') : tSeq (tIfS t tu tv) tz D σ H :=
  mono _ _ (fun b H ⟨h1, h2⟩ => by
    cases b with
    | true => exact h1 rfl
    | false => exact h2 rfl) h
theorem x_cutif {m : Option Bool} {b : Bool} (M : L2.St → Hp → Prop) (w : Wo G0 H0 ls G H cs) (h : ET t σ H m) (hm : m = some b) (h1 : b = true → ∀ H2, Wo G0 H0 ls G H2 cs → tu { D with nx := M } σ H2) (h2 : b = false → ∀ H2, Wo G0 H0 ls G H2 cs → tv { D with nx := M } σ H2)
    (k : ∀ σ' H', M σ' H' → tz D σ' H') : tCut (tIfS t tu tv) tz D σ H := ⟨M, c_t (Q := fun b H1 => if b = true then tu { D with nx := M } σ H1 else tv { D with nx := M } σ H1) w h hm fun H2 w2 => by
  cases b with
  | true => exact h1 rfl H2 w2
  | false => exact h2 rfl H2 w2, k⟩
theorem x_ret {m : Option α} {x : α} (w : Wo G0 H0 ls G H cs) (h : E te σ G H R m) (hm : m = some x) (k : ∀ v H2 G2, Wo G0 H0 ls G2 H2 cs → Ex G G2 → R.r G2 v x → D.rt v H2) : tSeq (tRet te) tz D σ H := c_e (Q := D.rt) w h hm k
theorem x_retL {m : Option (List α)} {x : List α} (w : Wo G0 H0 ls G H cs) (h : EL te σ G H R m) (hm : m = some x) (k : ∀ p H2 G2, H0 p = none → Wo G0 H0 ls G2 H2 ((p, cL R x) :: cs) → Ex G G2 → D.rt (.ref p) H2) : tSeq (tRet te) tz D σ H := c_l (Q := D.rt) w h hm k
theorem x_retO (h : te σ H D.rt) : tSeq (tRet te) tz D σ H := h
theorem x_drop (h : te σ H fun _ H1 => tz D σ H1) : tSeq (tDrop te) tz D σ H := h
theorem x_aug {i : Nat} {a b z : Int} {m : Option Int} {f : Int → Int → Option Int} {ti : TIp} (w : Wo G0 H0 ls G H cs) (hi : σ[i]? = some (some (.int a))) (h : E te σ G H rI m) (hm : m = some b) (hr : RR ti rI rI rI f) (hz : f a b = some z)
    (k : ∀ H2, Wo G0 H0 ls G H2 cs → tz D (σ.set i (some (.int z))) H2) : tSeq (tAug i te ti) tz D σ H :=
  ⟨.int a, hi, c_i (Q := fun y H1 => ti (.int a) y H1 fun z H2 => tz D (σ.set i (some z)) H2) w h hm fun H2 w2 => hr _ _ a b z H2 G rfl rfl hz w2.ex _ fun u H3 G3 up r => by cases r; exact k H3 (w2.sc up.hh)⟩
/-! ### list cells, by methods -/
theorem x_app {i j : Nat} {m : Option α} {x : α} {xs : List α} (w : Wo G0 H0 ls G H cs) (hc : cs[j]? = some (l, cL R xs)) (hs : sz xs.length = true) (hi : σ[i]? = some (some (.ref l))) (h : E te σ G H R m) (hm : m = some x)
    (k : ∀ H2 G2, Wo G0 H0 ls G2 H2 (cs.set j (l, cL R (xs ++ [x]))) → Ex G G2 → tz D σ H2) : tSeq (tDrop (tBM K "list" rAppend (tVar i) (tCons te tNil))) tz D σ H := by
  obtain ⟨_, o, h2, vs, rfl, h3⟩ := w.w.getAt hc
  refine ⟨.ref l, hi, .inl ⟨rfl, vs, Or.inl (Or.inl h2)⟩, c_e (Q := fun x H1 => rAppend (.ref l) [x] H1 fun _ H3 => tz D σ H3) w h hm fun v H3 G3 w3 e r => ?_⟩
  obtain ⟨_, o3, k2, vs3, rfl, k3⟩ := w3.w.getAt hc
  refine ⟨l, vs3, v, rfl, rfl, k2, by rw [k3.length]; exact sz_l hs, k _ _ (w3.writeAt hc ⟨vs3 ++ [v], rfl, pr_app k3 (.cons r .nil)⟩) e⟩
/-- append, the item made by an expression that changes cells: the last step -/
theorem c_app {j : Nat} {x : α} {v : V} {xs : List α} {Q : VK} (w : Wo G0 H0 ls G H cs) (hc : cs[j]? = some (l, cL R xs)) (hs : sz xs.length = true) (r : R.r G v x) (k : ∀ H2, Wo G0 H0 ls G H2 (cs.set j (l, cL R (xs ++ [x]))) → Q .non H2) : rAppend (.ref l) [v] H Q := by
  obtain ⟨_, o3, k2, vs3, rfl, k3⟩ := w.w.getAt hc
  exact ⟨l, vs3, v, rfl, rfl, k2, by rw [k3.length]; exact sz_l hs, k _ (w.writeAt hc ⟨vs3 ++ [v], rfl, pr_app k3 (.cons r .nil)⟩)⟩
theorem o_bm {rr : V → List V → Hp → VK → Prop} {i j : Nat} {xs : List α} {ta : TA} {Q : VK} (w : Wo G0 H0 ls G H cs) (hc : cs[j]? = some (l, cL R xs)) (hi : σ[i]? = some (some (.ref l))) (h : ta σ H fun vs H2 => rr (.ref l) vs H2 Q) : tBM K "list" rr (tVar i) ta σ H Q := by
  obtain ⟨_, o, h2, vs, rfl, h3⟩ := w.w.getAt hc
  exact ⟨.ref l, hi, .inl ⟨rfl, vs, Or.inl (Or.inl h2)⟩, h⟩
theorem o_bm0 {rr : V → List V → Hp → VK → Prop} {i j : Nat} {xs : List α} {Q : VK} (w : Wo G0 H0 ls G H cs) (hc : cs[j]? = some (l, cL R xs)) (hi : σ[i]? = some (some (.ref l))) (h : rr (.ref l) [] H Q) : tBM0 K "list" rr (tVar i) σ H Q := by
  obtain ⟨_, o, h2, vs, rfl, h3⟩ := w.w.getAt hc
  exact ⟨.ref l, hi, .inl ⟨rfl, vs, Or.inl (Or.inl h2)⟩, h⟩
/-- xs.pop(), xs.pop(i), insert, reverse, clear -/
def popM (xs : List α) : Option (α × List α) := xs[xs.length - 1]? >>= fun x => some (x, xs.dropLast)
def popAtM (xs : List α) (i : Int) : Option (α × List α) := if -(2 ^ 63) ≤ i ∧ i < 2 ^ 63 then (seqIndex? i xs.length >>= fun k => xs[k]? >>= fun x => some (x, xs.eraseIdx k)) else none
def insM (xs : List α) (i : Int) (x : α) : Option (List α) := if sz xs.length = true ∧ 0 ≤ i ∧ i < 2 ^ 63 then some (xs.take i.toNat ++ [x] ++ xs.drop i.toNat) else none
def appM (xs : List α) (x : α) : Option (List α) := bif sz xs.length then some (xs ++ [x]) else none
theorem appM_ok {xs ys : List α} {x : α} (h : appM xs x = some ys) : sz xs.length = true ∧ ys = xs ++ [x] := by
  unfold appM at h
  cases e : sz xs.length with
  | true => rw [e] at h; exact ⟨rfl, (Option.some.inj h).symm⟩
  | false => rw [e] at h; cases h
theorem pr_take {R : V → α → Prop} : ∀ (n : Nat) {vs : List V} {xs : List α}, Paired R vs xs → Paired R (vs.take n) (xs.take n)
  | 0, _, _, _ => .nil
  | n + 1, _, _, .nil => .nil
  | n + 1, _, _, .cons r t => .cons r (pr_take n t)
theorem pr_drop {R : V → α → Prop} : ∀ (n : Nat) {vs : List V} {xs : List α}, Paired R vs xs → Paired R (vs.drop n) (xs.drop n)
  | 0, _, _, h => h
  | n + 1, _, _, .nil => .nil
  | n + 1, _, _, .cons r t => pr_drop n t
theorem pr_erase {R : V → α → Prop} : ∀ (n : Nat) {vs : List V} {xs : List α}, Paired R vs xs → Paired R (vs.eraseIdx n) (xs.eraseIdx n)
  | _, _, _, .nil => .nil
  | 0, _, _, .cons r t => t
  | n + 1, _, _, .cons r t => .cons r (pr_erase n t)
theorem pr_set {R : V → α → Prop} {v : V} {x : α} (r0 : R v x) : ∀ (n : Nat) {vs : List V} {xs : List α}, Paired R vs xs → Paired R (vs.set n v) (xs.set n x)
  | _, _, _, .nil => .nil
  | 0, _, _, .cons r t => .cons r0 t
  | n + 1, _, _, .cons r t => .cons r (pr_set r0 n t)
theorem pr_dropLast {R : V → α → Prop} {vs : List V} {xs : List α} (h : Paired R vs xs) : Paired R vs.dropLast xs.dropLast := by
  rw [List.dropLast_eq_take, List.dropLast_eq_take, h.length]; exact pr_take _ h
theorem pr_rev {R : V → α → Prop} : ∀ {vs : List V} {xs : List α}, Paired R vs xs → Paired R vs.reverse xs.reverse
  | _, _, .nil => .nil
  | _, _, .cons r t => by rw [List.reverse_cons, List.reverse_cons]; exact pr_app (pr_rev t) (.cons r .nil)
theorem c_pop {j : Nat} {x : α} {xs ys : List α} {Q : VK} (w : Wo G0 H0 ls G H cs) (hc : cs[j]? = some (l, cL R xs)) (hm : popM xs = some (x, ys)) (k : ∀ v H2, Wo G0 H0 ls G H2 (cs.set j (l, cL R ys)) → R.r G v x → Q v H2) : rPop (.ref l) [] H Q := by
  obtain ⟨_, o3, k2, vs, rfl, k3⟩ := w.w.getAt hc
  obtain ⟨x', hx, e⟩ := bindS hm
  cases e
  obtain ⟨v, hv, r⟩ := pr_get k3 hx
  exact ⟨l, vs, v, rfl, rfl, k2, by rw [k3.length]; exact hv, k v _ (w.writeAt hc ⟨vs.dropLast, rfl, pr_dropLast k3⟩) r⟩
theorem c_popAt {j : Nat} {i : Int} {x : α} {xs ys : List α} {Q : VK} (w : Wo G0 H0 ls G H cs) (hc : cs[j]? = some (l, cL R xs)) (hm : popAtM xs i = some (x, ys)) (k : ∀ v H2, Wo G0 H0 ls G H2 (cs.set j (l, cL R ys)) → R.r G v x → Q v H2) : rPopAt (.ref l) [.int i] H Q := by
  obtain ⟨_, o3, k2, vs, rfl, k3⟩ := w.w.getAt hc
  unfold popAtM at hm
  split at hm
  · rename_i hb
    obtain ⟨n, hn, hm⟩ := bindS hm
    obtain ⟨x', hx, e⟩ := bindS hm
    cases e
    obtain ⟨v, hv, r⟩ := pr_get k3 hx
    exact ⟨l, vs, i, n, v, rfl, rfl, k2, hb.1, hb.2, by rw [k3.length]; exact hn, hv, k v _ (w.writeAt hc ⟨vs.eraseIdx n, rfl, pr_erase n k3⟩) r⟩
  · cases hm
abbrev rIns : V → List V → Hp → VK → Prop := fun x vs H Q => ∃ (l : Addr) (xs : List V) (i : Int) (y : V), x = .ref l ∧ vs = [.int i, y] ∧ H l = some (.lst xs) ∧ xs.length < sizeLine ∧ 0 ≤ i ∧ i < 2 ^ 63 ∧ Q .non (upd H l (.lst (xs.take i.toNat ++ [y] ++ xs.drop i.toNat)))
def rInsN : V → List V → Hp → VK → Prop := rIns
theorem c_ins {j : Nat} {i : Int} {x : α} {v : V} {xs ys : List α} {Q : VK} (w : Wo G0 H0 ls G H cs) (hc : cs[j]? = some (l, cL R xs)) (r : R.r G v x) (hm : insM xs i x = some ys) (k : ∀ H2, Wo G0 H0 ls G H2 (cs.set j (l, cL R ys)) → Q .non H2) : rInsN (.ref l) [.int i, v] H Q := by
  obtain ⟨_, o3, k2, vs, rfl, k3⟩ := w.w.getAt hc
  unfold insM at hm
  split at hm
  · rename_i hb
    cases hm
    exact ⟨l, vs, i, v, rfl, rfl, k2, by rw [k3.length]; exact sz_l hb.1, hb.2.1, hb.2.2, k _ (w.writeAt hc ⟨_, rfl, pr_app (pr_app (pr_take _ k3) (.cons r .nil)) (pr_drop _ k3)⟩)⟩
  · cases hm
theorem c_rev {j : Nat} {xs : List α} {Q : VK} (w : Wo G0 H0 ls G H cs) (hc : cs[j]? = some (l, cL R xs)) (k : ∀ H2, Wo G0 H0 ls G H2 (cs.set j (l, cL R xs.reverse)) → Q .non H2) : rReverse (.ref l) [] H Q := by
  obtain ⟨_, o3, k2, vs, rfl, k3⟩ := w.w.getAt hc
  exact ⟨l, vs, rfl, rfl, k2, k _ (w.writeAt hc ⟨_, rfl, pr_rev k3⟩)⟩
theorem c_clear {j : Nat} {xs : List α} {Q : VK} (w : Wo G0 H0 ls G H cs) (hc : cs[j]? = some (l, cL R xs)) (k : ∀ H2, Wo G0 H0 ls G H2 (cs.set j (l, cL R [])) → Q .non H2) : rClear (.ref l) [] H Q := by
  obtain ⟨_, o3, k2, vs, rfl, k3⟩ := w.w.getAt hc
  exact ⟨l, vs, rfl, rfl, k2, k _ (w.writeAt hc ⟨_, rfl, .nil⟩)⟩
theorem mt_insN {X : Cx} : MtR X "list.insert" rInsN := mt_insert
/-- xs[i] = e -/
def setM (xs : List α) (i : Int) (x : α) : Option (List α) := ixN xs.length i >>= fun j => some (xs.set j x)
theorem x_setIx {a j : Nat} {te ti : TE} {m : Option α} {mi : Option Int} {x : α} {i : Int} {xs ys : List α} (w : Wo G0 H0 ls G H cs) (hc : cs[j]? = some (l, cL R xs)) (hi : σ[a]? = some (some (.ref l))) (h : E te σ G H R m) (hm : m = some x)
    (h' : E ti σ G H rI mi) (hm' : mi = some i) (hy : setM xs i x = some ys) (k : ∀ H2 G2, Wo G0 H0 ls G2 H2 (cs.set j (l, cL R ys)) → Ex G G2 → tz D σ H2) : tSeq (tAsg te (gSub (tVar a) ti rSetL)) tz D σ H :=
  h x hm H w.ex (Ex.refl _) (fun x H1 => gSub (tVar a) ti rSetL x σ H1 (tz D)) fun v H3 G3 u r => by
    have w3 := w.up u
    refine ⟨.ref l, hi, (h'.mono u.gg u.hh) i hm' H3 w3.ex (Ex.refl _) _ fun v' H4 G4 u' r' => ?_⟩
    cases r'
    have w4 := w3.up u'
    obtain ⟨_, o3, k2, vs, rfl, k3⟩ := w4.w.getAt hc
    obtain ⟨n, hn, e⟩ := bindS hy
    cases e
    exact ⟨l, vs, i, n, rfl, rfl, k2, by rw [k3.length]; exact hn, k _ _ (w4.writeAt hc ⟨_, rfl, pr_set (R.mono u'.gg r) n k3⟩) (u.gg.trans u'.gg)⟩

/-! ### loops -/
theorem x_forL {xs : List α} {tl : TE} {m : Option (List α)} (w : Wo G0 H0 ls G H cs) (h : E tl σ G H (rL R) m) (hm : m = some xs) (P : Nat → Hp → Hp → L2.St → Prop) (hP : ∀ i G' H' σ', P i G' H' σ' → Ex G' H')
    (h0 : ∀ G' H', Wo G0 H0 ls G' H' cs → Ex G G' → P 0 G' H' σ)
    (hs : ∀ G1, Ex G G1 → ∀ i x v σ' G' H', xs[i]? = some x → Ex G1 G' → P i G' H' σ' → R.r G' v x → g v σ' H' fun σ2 H2 => tu { D with nx := fun σ' H' => ∃ G', Ex G1 G' ∧ P (i + 1) G' H' σ', ct := fun σ' H' => ∃ G', Ex G1 G' ∧ P (i + 1) G' H' σ', bk := tz D } σ2 H2)
    (hd : ∀ σ' G' H', Ex G G' → P xs.length G' H' σ' → tz D σ' H') : tSeq (tFor (iList K tl) g tu) tz D σ H :=
  h xs hm H w.ex (Ex.refl _) _ fun v H1 G1 u r => by
    obtain ⟨a, vs, rfl, h2, h3⟩ := r
    refine ⟨a, rfl, ⟨vs, Or.inl (Or.inl (u.gh a _ h2))⟩, for_list (K := K) (a := a) (xs := vs) (fun i σ' H' => ∃ G', Ex G1 G' ∧ P i G' H' σ') ⟨G1, Ex.refl _, h0 G1 H1 (w.up u) u.gg⟩ ?_ ?_ ?_⟩
    · rintro i σ' H' _ ⟨G', e, p⟩
      exact Or.inl (Or.inl (hP _ _ _ _ p a _ (e a _ h2)))
    · rintro i y σ' H' hy ⟨G', e, p⟩
      obtain ⟨x, hx, r⟩ := pr_get' h3 hy
      exact hs G1 u.gg i x y σ' G' H' hx e p (R.mono e r)
    · rintro σ' H' ⟨G', e, p⟩
      rw [h3.length] at p
      exact hd σ' G' H' (u.gg.trans e) p
theorem x_forR {ta : TA} {n : Int} {m : Option (Int × Unit)} {xs : List Int} (w : Wo G0 H0 ls G H cs) (h : EA ta σ G H (aC rI aN) m) (hm : m = some (n, ())) (hx : rngM 0 n = some xs) (P : Nat → Hp → Hp → L2.St → Prop)
    (h0 : ∀ G' H', Wo G0 H0 ls G' H' cs → Ex G G' → P 0 G' H' σ)
    (hs : ∀ i x σ' G' H', xs[i]? = some x → P i G' H' σ' → g (.int x) σ' H' fun σ2 H2 => tu { D with nx := fun σ' H' => ∃ G', P (i + 1) G' H' σ', ct := fun σ' H' => ∃ G', P (i + 1) G' H' σ', bk := tz D } σ2 H2)
    (hd : ∀ σ' G' H', P xs.length G' H' σ' → tz D σ' H') : tSeq (tFor (iRng1 ta) g tu) tz D σ H :=
  h _ hm H w.ex (Ex.refl _) _ fun v H1 G1 u r => by
    obtain ⟨v1, ws, rfl, e1, rfl⟩ := r
    cases e1
    unfold rngM at hx
    split at hx
    · rename_i hb
      cases hx
      refine ⟨n, rfl, by omega, by omega, for_range (lo := 0) (n := n.toNat) (fun i σ' H' => ∃ G', P i G' H' σ') ⟨G1, h0 G1 H1 (w.up u) u.gg⟩ ?_ ?_⟩
      · rintro i σ' H' hi ⟨G', p⟩
        exact hs i _ σ' G' H' (rng_get (by omega)) p
      · rintro σ' H' ⟨G', p⟩
        refine hd σ' G' H' ?_
        rw [rng_len]
        have : (n - 0).toNat = n.toNat := by omega
        rw [this]; exact p
    · cases hx
theorem x_forR2 {ta : TA} {lo n : Int} {m : Option (Int × Int × Unit)} {xs : List Int} (w : Wo G0 H0 ls G H cs) (h : EA ta σ G H (aC rI (aC rI aN)) m) (hm : m = some (lo, n, ())) (hx : rngM lo n = some xs) (P : Nat → Hp → Hp → L2.St → Prop)
    (h0 : ∀ G' H', Wo G0 H0 ls G' H' cs → Ex G G' → P 0 G' H' σ)
    (hs : ∀ i x σ' G' H', xs[i]? = some x → P i G' H' σ' → g (.int x) σ' H' fun σ2 H2 => tu { D with nx := fun σ' H' => ∃ G', P (i + 1) G' H' σ', ct := fun σ' H' => ∃ G', P (i + 1) G' H' σ', bk := tz D } σ2 H2)
    (hd : ∀ σ' G' H', P xs.length G' H' σ' → tz D σ' H') : tSeq (tFor (iRng2 ta) g tu) tz D σ H :=
  h _ hm H w.ex (Ex.refl _) _ fun v H1 G1 u r => by
    obtain ⟨v1, ws, rfl, e1, v2, ws2, rfl, e2, rfl⟩ := r
    cases e1
    cases e2
    unfold rngM at hx
    split at hx
    · rename_i hb
      cases hx
      refine ⟨lo, n, rfl, ⟨by omega, by omega, by omega, by omega⟩, for_range (lo := lo) (n := (n - lo).toNat) (fun i σ' H' => ∃ G', P i G' H' σ') ⟨G1, h0 G1 H1 (w.up u) u.gg⟩ ?_ ?_⟩
      · rintro i σ' H' hi ⟨G', p⟩
        exact hs i _ σ' G' H' (rng_get hi) p
      · rintro σ' H' ⟨G', p⟩
        refine hd σ' G' H' ?_
        rw [rng_len]
        exact p
    · cases hx
theorem g_name {j : Nat} {v : V} {Q : L2.St → Hp → Prop} (h : Q (σ.set j (some v)) H) : gName j v σ H Q := h
theorem g_pair {i j : Nat} {v : V} {p : α × β} {Q : L2.St → Hp → Prop} (r : (rP R S).r G v p) (e : Ex G H) (k : ∀ x y, R.r G x p.1 → S.r G y p.2 → Q ((σ.set i (some x)).set j (some y)) H) : gTup K 2 (gCons (gName i) (gCons (gName j) gNil)) v σ H Q := by
  obtain ⟨a, x, y, rfl, h2, h3, h4⟩ := r
  exact ⟨a, [x, y], rfl, Or.inl (Or.inl (e a _ h2)), rfl, x, [y], rfl, y, [], rfl, rfl, k x y h3 h4⟩
/-- while -/
theorem x_wh {ρ ς : Type} {c : ς → Option Bool} {body : ς → Option (Stp ς ρ)} {n : Nat} {s : ς} {r : ς ⊕ ρ} (hm : whL c body n s = some r) (P : ς → L2.St → Hp → Prop) (h0 : P s σ H)
    (ht : ∀ n s σ' H', P s σ' H' → whL c body n s = some r → ∃ b, c s = some b ∧ ∀ Q : Bool → Hp → Prop, (∀ H2, P s σ' H2 → Q b H2) → t σ' H' Q)
    (hs : ∀ n s σ' H', P s σ' H' → (body s >>= stpK (whL c body n)) = some r → tu { D with nx := fun σ2 H2 => ∃ s2, P s2 σ2 H2 ∧ whL c body n s2 = some r, ct := fun σ2 H2 => ∃ s2, P s2 σ2 H2 ∧ whL c body n s2 = some r, bk := tz D } σ' H')
    (hd : ∀ s σ' H', P s σ' H' → r = .inl s → tz D σ' H') : tSeq (tWhile t tu) tz D σ H := by
  refine ⟨fun n σ' H' => ∃ s, P s σ' H' ∧ whL c body n s = some r, ⟨n, s, h0, hm⟩, ?_⟩
  rintro n σ' H' ⟨s, p, hm⟩
  obtain ⟨b, hb, kb⟩ := ht n s σ' H' p hm
  refine kb _ fun H2 p2 => ?_
  cases n with
  | zero => cases hm
  | succ n =>
    have hm' : (c s >>= fun b => bif b then body s >>= stpK (whL c body n) else some (.inl s)) = some r := hm
    rw [hb] at hm'
    cases b with
    | true => exact ⟨_, fun σ2 H2 ⟨s2, q⟩ => ⟨n, Nat.lt_succ_self n, s2, q⟩, hs n s σ' H2 p2 hm'⟩
    | false => exact hd s σ' H2 p2 (Option.some.inj hm').symm
end
end Sim

namespace Sim
open PySem L2 Evl
section
variable {α β : Type}
/-- [f2 x for x in xs if f x] -/
def lcM (f : α → Option Bool) (f2 : α → Option β) : List α → Option (List β)
  | [] => some []
  | x :: xs => f x >>= fun b => bif b then f2 x >>= fun y => lcM f f2 xs >>= fun ys => some (y :: ys) else lcM f f2 xs
/-- [f2 x for x in xs] -/
def mapO (f2 : α → Option β) : List α → Option (List β)
  | [] => some []
  | x :: xs => f2 x >>= fun y => mapO f2 xs >>= fun ys => some (y :: ys)
def lcS (f : α → Option Bool) (f2 : α → Option β) (xs : List α) : Option (List β) := bif sz xs.length then lcM f f2 xs else none
def mapS (f2 : α → Option β) (xs : List α) : Option (List β) := bif sz xs.length then mapO f2 xs else none
theorem lcM_true (f2 : α → Option β) : ∀ xs, lcM (fun _ => some true) f2 xs = mapO f2 xs
  | [] => rfl
  | x :: xs => by
    show (f2 x >>= fun y => lcM (fun _ => some true) f2 xs >>= fun ys => some (y :: ys)) = _
    rw [lcM_true f2 xs]; rfl
theorem mapS_eq (f2 : α → Option β) : mapS f2 = lcS (fun _ => some true) f2 := by
  funext xs
  unfold mapS lcS
  rw [lcM_true]
theorem lcS_ok {f : α → Option Bool} {f2 : α → Option β} {xs : List α} {ys : List β} (h : lcS f f2 xs = some ys) : sz xs.length = true ∧ lcM f f2 xs = some ys := by
  unfold lcS at h
  cases e : sz xs.length with
  | true => rw [e] at h; exact ⟨rfl, h⟩
  | false => rw [e] at h; cases h
end
section
variable {K : PySem.W.Frag} {σ : L2.St} {G H W : Hp} {te tl : TE} {tt : TT} {α β γ : Type} {R : Rep α} {S : Rep β} {T : Rep γ}
/-- a turn's word: the list so far, what is left -/
def Lw (G0 H0 : Hp) (T : Rep γ) (f : α → Option Bool) (f2 : α → Option γ) (xs : List α) (zs : List γ) (D : Addr) (i : Nat) (H : Hp) : Prop :=
  ∃ G acc ys rest, H0 D = none ∧ Up G0 H0 G H ∧ G D = none ∧ H D = some (.lst acc) ∧ Paired (T.r G) acc ys ∧ lcM f f2 (xs.drop i) = some rest ∧ ys ++ rest = zs ∧ ys.length ≤ i
theorem lw_turn {G0 H0 H : Hp} {f : α → Option Bool} {f2 : α → Option γ} {xs : List α} {zs : List γ} {D : Addr} {i : Nat} {x : α} {σ2 : L2.St} (hx : xs[i]? = some x) (hs : sz xs.length = true) (p : Lw G0 H0 T f f2 xs zs D i H)
    (ht : ∀ G', Ex G0 G' → Ex H0 H → Ex G' H → ET tt σ2 H (f x)) (he : ∀ G' H', Ex G0 G' → Ex H0 H' → Ex H H' → Ex G' H' → E te σ2 G' H' T (f2 x)) :
    tt σ2 H fun b H3 => if b = true then te σ2 H3 fun y H4 => ∃ acc, H4 D = some (.lst acc) ∧ acc.length < sizeLine ∧ Lw G0 H0 T f f2 xs zs D (i + 1) (upd H4 D (.lst (acc ++ [y]))) else Lw G0 H0 T f f2 xs zs D (i + 1) H3 := by
  obtain ⟨G, acc, ys, rest, p1, p2, p3, p4, p5, p6, p7, p8⟩ := p
  rw [drop_at hx] at p6
  obtain ⟨b, hb, p6⟩ := bindS p6
  have hi : i < xs.length := (List.getElem?_eq_some_iff.mp hx).1
  refine ht G p2.gg p2.hh p2.gh b hb H (Ex.refl _) _ fun H3 e3 => ?_
  cases b with
  | false => exact ⟨G, acc, ys, rest, p1, p2.trans (Up.same p2.gh e3), p3, e3 _ _ p4, p5, p6, p7, Nat.le_succ_of_le p8⟩
  | true =>
    obtain ⟨y, hy, p6⟩ := bindS p6
    obtain ⟨r2, hr, p6⟩ := bindS p6
    cases p6
    show te σ2 H3 _
    refine he G H3 p2.gg (p2.hh.trans e3) e3 (p2.gh.trans e3) y hy H3 (p2.gh.trans e3) (Ex.refl _) _ fun v H4 G4 u r => ?_
    have q2 : Up G0 H0 G4 H4 := (p2.trans (Up.same p2.gh e3)).trans u
    have q3 : G4 D = none := u.nw D (by rw [e3 _ _ p4]; simp) p3
    have q4 := u.hh _ _ (e3 _ _ p4)
    refine ⟨acc, q4, by rw [p5.length]; exact sz_lt (by have := of_decide_eq_true hs; omega), G4, acc ++ [v], ys ++ [y], r2, p1, ⟨q2.gg, fun a o h => ?_, Ex.mut q2.hh p1, q2.nw⟩, q3, upd_same, pr_app (Paired.mapP p5 fun _ _ => T.mono u.gg) (.cons r .nil), hr, by rw [List.append_assoc]; exact p7, by rw [List.length_append]; exact Nat.succ_le_succ p8⟩
    rw [upd_ne (fun z => by subst z; rw [q3] at h; cases h)]
    exact q2.gh a o h
theorem lw_end {G0 H0 H : Hp} {f : α → Option Bool} {f2 : α → Option γ} {xs : List α} {zs : List γ} {D : Addr} (p : Lw G0 H0 T f f2 xs zs D xs.length H) : ∃ G, H0 D = none ∧ Up G0 H0 G H ∧ Wd G H [(D, cL T zs)] := by
  obtain ⟨G, acc, ys, rest, p1, p2, p3, p4, p5, p6, p7, p8⟩ := p
  rw [List.drop_length] at p6
  cases p6
  rw [List.append_nil] at p7
  subst p7
  exact ⟨G, p1, p2, p2.gh, fun c hc => by
    rw [List.mem_singleton.mp hc]; exact ⟨p3, _, p4, acc, rfl, p5⟩, List.nodup_cons.mpr ⟨List.not_mem_nil, List.nodup_nil⟩⟩
theorem lw_start {G0 H0 : Hp} {f : α → Option Bool} {f2 : α → Option γ} {xs : List α} {zs : List γ} {D : Addr} (e : Ex G0 H0) (hD : H0 D = none) (h : lcM f f2 xs = some zs) : Lw G0 H0 T f f2 xs zs D 0 (upd H0 D (.lst [])) :=
  ⟨G0, [], [], zs, hD, up_new e hD, fresh_back e hD, upd_same, .nil, h, rfl, Nat.le_refl _⟩
theorem el_lcL {vs : List Nat} {j : Nat} {m : Option (List α)} {f : α → Option Bool} {f2 : α → Option γ} (h : E tl σ G W (rL R) m) (hw : ∀ x, wipe ((wipe σ vs).set j (some x)) vs = wipe σ vs)
    (ht : ∀ x v G' W', Ex G G' → Ex W W' → Ex G' W' → R.r G' v x → ET tt ((wipe σ vs).set j (some v)) W' (f x))
    (he : ∀ x v G' W', Ex G G' → Ex W W' → Ex G' W' → R.r G' v x → E te ((wipe σ vs).set j (some v)) G' W' T (f2 x)) :
    EL (tLc (iList K tl) (gName j) tt te vs) σ G W T (m >>= fun xs => lcS f f2 xs) := fun zs hz H e e' Q q => by
  obtain ⟨xs, hx, hz⟩ := bindS hz
  obtain ⟨hs, hz⟩ := lcS_ok hz
  refine h xs hx H e e' _ fun v H1 G1 u r => ?_
  obtain ⟨a, us, rfl, h2, h3⟩ := r
  refine ⟨a, rfl, ⟨us, Or.inl (Or.inl (u.gh a _ h2))⟩, fun D hD => lc_list (xs := us) (Lw G1 H1 T f f2 xs zs D) (lw_start u.gh hD hz) (fun i H' _ p => ?_) (fun i y H' hy p => ?_) fun H' p => ?_⟩
  · obtain ⟨G', _, _, _, _, p2, _⟩ := p
    exact Or.inl (Or.inl (p2.gh a _ (p2.gg a _ h2)))
  · obtain ⟨x, hx', r⟩ := pr_get' h3 hy
    exact ⟨hw y, lw_turn hx' hs p (fun G' e1 e2 e3 => ht x y G' H' (u.gg.trans e1) ((e'.trans u.hh).trans e2) e3 (R.mono e1 r)) fun G' H2 e1 e2 _ e3 => he x y G' H2 (u.gg.trans e1) ((e'.trans u.hh).trans e2) e3 (R.mono e1 r)⟩
  · rw [h3.length] at p
    obtain ⟨G', k1, k2, k3⟩ := lw_end p
    exact q D H' G' (fresh_back u.hh k1) (u.trans k2) k3
theorem el_lcR {ta : TA} {vs : List Nat} {j : Nat} {m : Option (Int × Unit)} {f : Int → Option Bool} {f2 : Int → Option γ} (h : EA ta σ G W (aC rI aN) m) (hw : ∀ x, wipe ((wipe σ vs).set j (some x)) vs = wipe σ vs)
    (ht : ∀ x G' W', Ex G G' → Ex W W' → Ex G' W' → ET tt ((wipe σ vs).set j (some (.int x))) W' (f x))
    (he : ∀ x G' W', Ex G G' → Ex W W' → Ex G' W' → E te ((wipe σ vs).set j (some (.int x))) G' W' T (f2 x)) :
    EL (tLc (iRng1 ta) (gName j) tt te vs) σ G W T (m >>= fun n => rngM 0 n.1 >>= fun xs => lcS f f2 xs) := fun zs hz H e e' Q q => by
  obtain ⟨n, hn, hz⟩ := bindS hz
  obtain ⟨xs, hx, hz⟩ := bindS hz
  obtain ⟨hs, hz⟩ := lcS_ok hz
  refine h n hn H e e' _ fun v H1 G1 u r => ?_
  obtain ⟨v1, ws, rfl, e1, rfl⟩ := r
  cases e1
  unfold rngM at hx
  split at hx
  · rename_i hb
    cases hx
    have hl : (rng 0 n.1).length = n.1.toNat := by rw [rng_len]; omega
    refine ⟨n.1, rfl, by omega, by omega, fun D hD => lc_range (lo := 0) (n := n.1.toNat) (Lw G1 H1 T f f2 (rng 0 n.1) zs D) (lw_start u.gh hD hz) (fun i H' hi p => ?_) fun H' p => ?_⟩
    · have hx' : (rng 0 n.1)[i]? = some (0 + (i : Int)) := rng_get (by omega)
      exact ⟨hw _, lw_turn hx' hs p (fun G' e1 e2 e3 => ht _ G' H' (u.gg.trans e1) ((e'.trans u.hh).trans e2) e3) fun G' H2 e1 e2 _ e3 => he _ G' H2 (u.gg.trans e1) ((e'.trans u.hh).trans e2) e3⟩
    · rw [← hl] at p
      obtain ⟨G', k1, k2, k3⟩ := lw_end p
      exact q D H' G' (fresh_back u.hh k1) (u.trans k2) k3
  · cases hx
/-- the target a pair of names -/
theorem el_lcP {vs : List Nat} {i j : Nat} {m : Option (List (α × β))} {f : α × β → Option Bool} {f2 : α × β → Option γ} (h : E tl σ G W (rL (rP R S)) m) (hw : ∀ x y, wipe (((wipe σ vs).set i (some x)).set j (some y)) vs = wipe σ vs)
    (ht : ∀ p v w G' W', Ex G G' → Ex W W' → Ex G' W' → R.r G' v p.1 → S.r G' w p.2 → ET tt (((wipe σ vs).set i (some v)).set j (some w)) W' (f p))
    (he : ∀ p v w G' W', Ex G G' → Ex W W' → Ex G' W' → R.r G' v p.1 → S.r G' w p.2 → E te (((wipe σ vs).set i (some v)).set j (some w)) G' W' T (f2 p)) :
    EL (tLc (iList K tl) (gTup K 2 (gCons (gName i) (gCons (gName j) gNil))) tt te vs) σ G W T (m >>= fun xs => lcS f f2 xs) := fun zs hz H e e' Q q => by
  obtain ⟨xs, hx, hz⟩ := bindS hz
  obtain ⟨hs, hz⟩ := lcS_ok hz
  refine h xs hx H e e' _ fun v H1 G1 u r => ?_
  obtain ⟨a, us, rfl, h2, h3⟩ := r
  refine ⟨a, rfl, ⟨us, Or.inl (Or.inl (u.gh a _ h2))⟩, fun D hD => lc_list (xs := us) (Lw G1 H1 T f f2 xs zs D) (lw_start u.gh hD hz) (fun i H' _ p => ?_) (fun k y H' hy p => ?_) fun H' p => ?_⟩
  · obtain ⟨G', _, _, _, _, p2, _⟩ := p
    exact Or.inl (Or.inl (p2.gh a _ (p2.gg a _ h2)))
  · obtain ⟨x, hx', b, v, w, rfl, k2, k3, k4⟩ := pr_get' h3 hy
    have k5 : H' b = some (.tup [v, w]) := by
      obtain ⟨G', _, _, _, _, p2, _⟩ := p
      exact p2.gh b _ (p2.gg b _ k2)
    refine ⟨b, [v, w], rfl, Or.inl (Or.inl k5), rfl, v, [w], rfl, w, [], rfl, rfl, hw v w, ?_⟩
    exact lw_turn hx' hs p (fun G' e1 e2 e3 => ht x v w G' H' (u.gg.trans e1) ((e'.trans u.hh).trans e2) e3 (R.mono e1 k3) (S.mono e1 k4)) fun G' H2 e1 e2 _ e3 => he x v w G' H2 (u.gg.trans e1) ((e'.trans u.hh).trans e2) e3 (R.mono e1 k3) (S.mono e1 k4)
  · rw [h3.length] at p
    obtain ⟨G', k1, k2, k3⟩ := lw_end p
    exact q D H' G' (fresh_back u.hh k1) (u.trans k2) k3
theorem et_yes : ET tYes σ W (some true) := fun b hb H _ Q q => by
  cases hb
  exact q H (Ex.refl _)
/-- no test: mapS -/
theorem el_map {m : Option (List α)} {f2 : α → Option γ} {te : TE} (h : EL te σ G W T (m >>= fun xs => lcS (fun _ => some true) f2 xs)) : EL te σ G W T (m >>= fun xs => mapS f2 xs) := by rw [mapS_eq]; exact h
theorem el_mapR {m : Option (Int × Unit)} {f2 : Int → Option γ} {te : TE} (h : EL te σ G W T (m >>= fun n => rngM 0 n.1 >>= fun xs => lcS (fun _ => some true) f2 xs)) : EL te σ G W T (m >>= fun n => rngM 0 n.1 >>= fun xs => mapS f2 xs) := by rw [mapS_eq]; exact h
end
end Sim

namespace Sim
open PySem L2 Evl
section
variable {K : PySem.W.Frag} {σ : L2.St} {G0 H0 G H G2 H2 W : Hp} {ls : List Addr} {cs : Cs} {l : Addr} {cp cp' : CP} {ta tb te tc : TE} {t u : TT} {α β γ ι κ : Type} {R : Rep α} {S : Rep β} {T : Rep γ} {A : AR ι} {D : Ends} {tu tv tz : TS} {g : TG}
theorem E.is {m : Option α} {x : α} (h : E te σ G W R m) (hm : m = some x) : E te σ G W R (some x) := by rw [← hm]; exact h
theorem ET.is {m : Option Bool} {x : Bool} (h : ET t σ W m) (hm : m = some x) : ET t σ W (some x) := by rw [← hm]; exact h
theorem EL.is {m : Option (List α)} {x : List α} (h : EL te σ G W R m) (hm : m = some x) : EL te σ G W R (some x) := by rw [← hm]; exact h
theorem e_andP {a b : Bool} (h1 : E ta σ G W rB (some a)) (h2 : E tb σ G W rB (some b)) : E (tAndV ta tb) σ G W rB (some (a && b)) := by
  have h := e_andV h1 h2
  cases a <;> exact h
theorem e_orP {a b : Bool} (h1 : E ta σ G W rB (some a)) (h2 : E tb σ G W rB (some b)) : E (tOrV ta tb) σ G W rB (some (a || b)) := by
  have h := e_orV h1 h2
  cases a <;> exact h
theorem et_andP {a b : Bool} (h1 : ET t σ W (some a)) (h2 : ET u σ W (some b)) : ET (tAnd t u) σ W (some (a && b)) := by
  have h := et_and h1 h2
  cases a <;> exact h
theorem et_orP {a b : Bool} (h1 : ET t σ W (some a)) (h2 : ET u σ W (some b)) : ET (tOr t u) σ W (some (a || b)) := by
  have h := et_or h1 h2
  cases a <;> exact h
/-- an option's value where it is one -/
theorem e_some {m : Option α} (h : E te σ G W R m) : E te σ G W (rO R) (m >>= fun x => some (some x)) := fun z hz H e e' Q q => by
  obtain ⟨x, hx, hz⟩ := bindS hz
  cases hz
  exact h x hx H e e' Q q
theorem e_none : E (tC .non) σ G W (rO R) (some none) := e_c rfl
theorem e_get {m : Option (Option α)} (h : E te σ G W (rO R) m) : E te σ G W R (m >>= fun x => x) := fun z hz H e e' Q q => by
  obtain ⟨x, hx, hz⟩ := bindS hz
  subst hz
  exact h _ hx H e e' Q q
/-- items of one kind -/
def EAL (n : Nat) (ta : TA) (σ : L2.St) (G W : Hp) (R : Rep α) (m : Option (List α)) : Prop :=
  ∀ xs, m = some xs → xs.length = n ∧ ∀ H, Ex G H → Ex W H → ∀ Q : List V → Hp → Prop, (∀ vs H2 G2, Up G H G2 H2 → Paired (R.r G2) vs xs → Q vs H2) → ta σ H Q
theorem EAL.mono {n : Nat} {G' W' : Hp} {ta : TA} {m : Option (List α)} (e : Ex G G') (e' : Ex W W') (h : EAL n ta σ G W R m) : EAL n ta σ G' W' R m := fun x hx => ⟨(h x hx).1, fun H e1 e2 Q q =>
  (h x hx).2 H (e.trans e1) (e'.trans e2) Q fun v H2 G2 up r => by
    obtain ⟨G3, u3, e3⟩ := up.lift e e1
    exact q v H2 G3 u3 (Paired.mapP r fun _ _ => R.mono e3)⟩
theorem eal_nil : EAL 0 tNil σ G W R (some []) := fun x hx => by
  cases hx
  exact ⟨rfl, fun H e e' Q q => q [] H G (Up.refl e) .nil⟩
theorem eal_cons {n : Nat} {tr : TA} {ma : Option α} {mr : Option (List α)} (h : E ta σ G W R ma) (hr : EAL n tr σ G W R mr) : EAL (n + 1) (tCons ta tr) σ G W R (ma >>= fun x => mr >>= fun xs => some (x :: xs)) := fun z hz => by
  obtain ⟨x, hx, hz⟩ := bindS hz
  obtain ⟨xs, hxs, hz⟩ := bindS hz
  cases hz
  refine ⟨congrArg (· + 1) (hr xs hxs).1, fun H e e' Q q => ?_⟩
  refine h x hx H e e' _ fun v H1 G1 u1 r1 => ?_
  refine ((hr.mono u1.gg (e'.trans u1.hh)) xs hxs).2 H1 u1.gh (Ex.refl _) _ fun vs H2 G2 u2 r2 => ?_
  exact q (v :: vs) H2 G2 (u1.trans u2) (.cons (R.mono u2.gg r1) r2)
theorem el_disp {n : Nat} {ta : TA} {m : Option (List α)} (h : EAL n ta σ G W R m) (hn : n < 100000 := by decide) : EL (tLst ta) σ G W R m := fun z hz H e e' Q q => by
  refine (h z hz).2 H e e' _ fun vs H1 G1 u1 r1 => ?_
  refine ⟨sz_of (by rw [r1.length, (h z hz).1]; exact Nat.le_of_lt hn), fun p hp => q p _ G1 (fresh_back u1.hh hp) (u1.trans (up_new u1.gh hp)) (wd_new u1.gh hp r1)⟩
theorem e_tupH {n : Nat} {ta : TA} {m : Option (List α)} (h : EAL n ta σ G W R m) (hn : n < 100000 := by decide) : E (tTup ta) σ G W (rT R) m := fun z hz H e e' Q q => by
  refine (h z hz).2 H e e' _ fun vs H1 G1 u1 r1 => ?_
  refine ⟨sz_of (by rw [r1.length, (h z hz).1]; exact Nat.le_of_lt hn), fun p hp => q _ _ _ (u1.trans (Up.lay u1.gh hp)) ⟨p, vs, rfl, upd_same, Paired.mapP r1 fun _ _ => R.mono (Ex.new (fresh_back u1.gh hp))⟩⟩
/-! ### cuts, tests opened -/
theorem o_cut (M : L2.St → Hp → Prop) (h : tSeq tu (fun _ => M) D σ H) (k : ∀ σ' H', M σ' H' → tz D σ' H') : Evl.tCut tu tz D σ H := ⟨M, h, k⟩
theorem o_if (h : t σ H fun b H1 => if b = true then tu { D with nx := tz D } σ H1 else tv { D with nx := tz D } σ H1) : tSeq (tIfS t tu tv) tz D σ H := h
theorem ite_b {b : Bool} {A B : Prop} (h1 : b = true → A) (h2 : b = false → B) : if b = true then A else B := by
  cases b with
  | true => exact h1 rfl
  | false => exact h2 rfl
theorem c_pf {f : ι → Option γ} {vs : List V} {i : ι} {z : γ} {Q : VK} {X : XK} (w : Wo G0 H0 ls G H cs) (hv : A.r G vs i) (hz : f i = some z)
    (k : ∀ u H2 G2, Wo G0 H0 ls G2 H2 cs → Ex G G2 → T.r G2 u z → Q u H2) : PF A T f vs H Q X := ⟨G, i, z, w.ex, hv, hz, fun u H2 G2 up r => k u H2 G2 (w.up up) up.gg r⟩
theorem c_pl {f : ι → Option (List γ)} {vs : List V} {i : ι} {z : List γ} {Q : VK} {X : XK} (w : Wo G0 H0 ls G H cs) (hv : A.r G vs i) (hz : f i = some z)
    (k : ∀ p H2 G2, H0 p = none → Wo G0 H0 ls G2 H2 ((p, cL T z) :: cs) → Ex G G2 → Q (.ref p) H2) : PL A T f vs H Q X := ⟨G, i, z, w.ex, hv, hz, fun p H2 G2 hp up w2 => k p H2 G2 (by
    cases q : H0 p with
    | none => rfl
    | some o => exact absurd hp (w.f.st p (by rw [q]; simp))) (w.newL hp up w2) up.gg⟩
theorem o_forR {ta : TA} (h : ta σ H fun vs H1 => ∃ j : Int, vs = [.int j] ∧ -(2 ^ 62) ≤ j ∧ j < 2 ^ 62 ∧ (fun (J : It) (H1 : Hp) => ∃ W : Nat → Nat → L2.St → Hp → Prop, (∃ m, W 0 m σ H1) ∧ ∀ i m σ H, W i m σ H →
      (J.stop i H ∧ tz D σ H) ∨ (J.go i H ∧ ∃ N : L2.St → Hp → Prop, (∀ σ' H', N σ' H' → ∃ m', m' < m ∧ W (i + 1) m' σ' H') ∧ ∀ x H', J.yld i H x H' → g x σ H' fun σ2 H2 => tu { D with nx := N, ct := N, bk := tz D } σ2 H2)) (Itr 0 j.toNat) H1) : tSeq (tFor (iRng1 ta) g tu) tz D σ H := h
/-- for i in range(n), n reckoned -/
theorem v_forR {n : Int} {xs : List Int} (w : Wo G0 H0 ls G H cs) (hx : rngM 0 n = some xs) (P : Nat → Hp → Hp → L2.St → Prop)
    (h0 : P 0 G H σ)
    (hs : ∀ i x σ' G' H', xs[i]? = some x → P i G' H' σ' → g (.int x) σ' H' fun σ2 H2 => tu { D with nx := fun σ' H' => ∃ G', P (i + 1) G' H' σ', ct := fun σ' H' => ∃ G', P (i + 1) G' H' σ', bk := tz D } σ2 H2)
    (hd : ∀ σ' G' H', P xs.length G' H' σ' → tz D σ' H') : ∃ j : Int, [V.int n] = [.int j] ∧ -(2 ^ 62) ≤ j ∧ j < 2 ^ 62 ∧ (fun (J : It) (H1 : Hp) => ∃ W : Nat → Nat → L2.St → Hp → Prop, (∃ m, W 0 m σ H1) ∧ ∀ i m σ H, W i m σ H →
      (J.stop i H ∧ tz D σ H) ∨ (J.go i H ∧ ∃ N : L2.St → Hp → Prop, (∀ σ' H', N σ' H' → ∃ m', m' < m ∧ W (i + 1) m' σ' H') ∧ ∀ x H', J.yld i H x H' → g x σ H' fun σ2 H2 => tu { D with nx := N, ct := N, bk := tz D } σ2 H2)) (Itr 0 j.toNat) H := by
  unfold rngM at hx
  split at hx
  · rename_i hb
    cases hx
    refine ⟨n, rfl, by omega, by omega, for_range (lo := 0) (n := n.toNat) (D := { D with nx := tz D }) (fun i σ' H' => ∃ G', P i G' H' σ') ⟨G, h0⟩ ?_ ?_⟩
    · rintro i σ' H' hi ⟨G', p⟩
      exact hs i _ σ' G' H' (rng_get (by omega)) p
    · rintro σ' H' ⟨G', p⟩
      refine hd σ' G' H' ?_
      rw [rng_len]
      have : (n - 0).toNat = n.toNat := by omega
      rw [this]; exact p
  · cases hx
end
end Sim

namespace Sim
open PySem L2 Evl
section
variable {K : PySem.W.Frag} {σ : L2.St} {G0 H0 G H G2 H2 W : Hp} {ls : List Addr} {cs : Cs} {l : Addr} {cp cp' : CP} {ta tb te tc : TE} {t u : TT} {α β γ ι κ : Type} {R : Rep α} {S : Rep β} {T : Rep γ} {A : AR ι} {D : Ends} {tu tv tz : TS} {g : TG}
theorem scO (h : R.Sc) : (rO R).Sc := fun {H H' v x} q => by
  cases x with
  | none => exact q
  | some y => exact h q
theorem cl_sc {xs : List α} (h : R.Sc) {o : HO} (q : (cL R xs).p G o) : (cL R xs).p G2 o := by
  obtain ⟨vs, e, p⟩ := q
  exact ⟨vs, e, Paired.mapP p fun _ _ r => h r⟩
theorem EL.s {m : Option (List α)} (sc : R.Sc) (h : EL te σ W W R m) : EL te σ G W R m := fun xs hx H e e' Q q => h xs hx H e' e' Q fun p H2 G2 hp u w => by
  obtain ⟨h1, o, h2, h3⟩ := w.head
  exact q p H2 G hp (Up.same e u.hh) ⟨e.trans u.hh, fun c hc => by
    rw [List.mem_singleton.mp hc]
    exact ⟨fresh_back e hp, o, h2, cl_sc sc h3⟩, List.nodup_cons.mpr ⟨List.not_mem_nil, List.nodup_nil⟩⟩
theorem e_neg {m : Option Int} (h : E te σ G W rI m) : E (tUn (L2.rU fun i => .int (-i)) te) σ G W rI (m >>= fun x => some (-x)) := fun z hz H e e' Q q => by
  obtain ⟨x, hx, hz⟩ := bindS hz
  cases hz
  exact h x hx H e e' _ fun v H1 G1 u r => ⟨x, r, q _ H1 G1 u rfl⟩
/-- the cells in another order -/
theorem Wo.perm (w : Wo G0 H0 ls G H cs) (p : List Nat) (hp : p.Nodup) (hl : ∀ i ∈ p, i < cs.length) : Wo G0 H0 ls G H (p.filterMap fun i => cs[i]?) := by
  have hm : ∀ c ∈ p.filterMap (fun i => cs[i]?), c ∈ cs := fun c hc => by
    obtain ⟨i, _, e⟩ := List.mem_filterMap.mp hc
    exact List.mem_of_getElem? e
  refine ⟨⟨w.ex, fun c hc => w.w.at_ c (hm c hc), ?_⟩, w.f, fun c hc => w.lo c (hm c hc)⟩
  clear hm
  induction p with
  | nil => exact List.nodup_nil
  | cons i p ih =>
    have hi : i < cs.length := hl i (List.mem_cons_self ..)
    rw [List.filterMap_cons, List.getElem?_eq_getElem hi]
    refine List.nodup_cons.mpr ⟨fun h => ?_, ih (List.nodup_cons.mp hp).2 fun j hj => hl j (List.mem_cons_of_mem _ hj)⟩
    obtain ⟨c, hc, e⟩ := List.mem_map.mp h
    obtain ⟨j, hj, ej⟩ := List.mem_filterMap.mp hc
    have h1 : (cs.map (·.1))[i]? = some cs[i].1 := by rw [List.getElem?_map, List.getElem?_eq_getElem hi]; rfl
    have h2 : (cs.map (·.1))[j]? = some cs[i].1 := by rw [List.getElem?_map, ej]; exact congrArg some e
    have := nodup_ix w.w.nd h1 h2
    subst this
    exact (List.nodup_cons.mp hp).1 hj
theorem Wo.sub2 {i j : Nat} {l' : Addr} (w : Wo G0 H0 ls G H cs) (h : cs[i]? = some (l, cp)) (h' : cs[j]? = some (l', cp')) (ne : i ≠ j) : Wd G H [(l, cp), (l', cp')] := ⟨w.ex, fun c hc => by
  rcases List.mem_cons.mp hc with hc | hc
  · subst hc; exact w.w.at_ _ (List.mem_of_getElem? h)
  · rw [List.mem_singleton.mp hc]; exact w.w.at_ _ (List.mem_of_getElem? h'), by
  refine List.nodup_cons.mpr ⟨fun z => ?_, List.nodup_cons.mpr ⟨List.not_mem_nil, List.nodup_nil⟩⟩
  have e : l = l' := List.mem_singleton.mp z
  have h1 : (cs.map (·.1))[i]? = some l := by rw [List.getElem?_map, h]; rfl
  have h2 : (cs.map (·.1))[j]? = some l := by rw [List.getElem?_map, h', e]; rfl
  exact ne (nodup_ix w.w.nd h1 h2)⟩
theorem x_forT {xs : List α} {tl : TE} {m : Option (List α)} (w : Wo G0 H0 ls G H cs) (h : E tl σ G H (rT R) m) (hm : m = some xs) (P : Nat → Hp → Hp → L2.St → Prop) (hP : ∀ i G' H' σ', P i G' H' σ' → Ex G' H')
    (h0 : ∀ G' H', Wo G0 H0 ls G' H' cs → Ex G G' → P 0 G' H' σ)
    (hs : ∀ G1, Ex G G1 → ∀ i x v σ' G' H', xs[i]? = some x → Ex G1 G' → P i G' H' σ' → R.r G' v x → g v σ' H' fun σ2 H2 => tu { D with nx := fun σ' H' => ∃ G', Ex G1 G' ∧ P (i + 1) G' H' σ', ct := fun σ' H' => ∃ G', Ex G1 G' ∧ P (i + 1) G' H' σ', bk := tz D } σ2 H2)
    (hd : ∀ σ' G' H', Ex G G' → P xs.length G' H' σ' → tz D σ' H') : tSeq (tFor (iTup K tl) g tu) tz D σ H :=
  h xs hm H w.ex (Ex.refl _) _ fun v H1 G1 u r => by
    obtain ⟨a, vs, rfl, h2, h3⟩ := r
    refine ⟨a, rfl, ⟨vs, Or.inl (Or.inl (u.gh a _ h2))⟩, for_tup (K := K) (a := a) (xs := vs) (fun i σ' H' => ∃ G', Ex G1 G' ∧ P i G' H' σ') ⟨G1, Ex.refl _, h0 G1 H1 (w.up u) u.gg⟩ ?_ ?_ ?_⟩
    · rintro i σ' H' _ ⟨G', e, p⟩
      exact Or.inl (Or.inl (hP _ _ _ _ p a _ (e a _ h2)))
    · rintro i y σ' H' hy ⟨G', e, p⟩
      obtain ⟨x, hx, r⟩ := pr_get' h3 hy
      exact hs G1 u.gg i x y σ' G' H' hx e p (R.mono e r)
    · rintro σ' H' ⟨G', e, p⟩
      rw [h3.length] at p
      exact hd σ' G' H' (u.gg.trans e) p
end
/-! ### the text's facts -/
structure Tx (fa : List He.Fa) (fn : List He.DefD) (K : PySem.W.Frag) (mg : Str → Option Value) : Prop where
  ex : ∃ h : Heap, K.In h ∧ h.Ns mainGlobals mg
  c : He.SaysD fa fn K
section
variable {fa : List He.Fa} {fn : List He.DefD} {K : PySem.W.Frag} {mg : Str → Option Value} {P : Program} {w : World} {base : Heap}
theorem Tx.glo (T : Tx fa fn K mg) (i : Nat) {x : Str} (h : fa[i]? = some (.glo x)) : mg x = some (.ref (He.ga K x)) := by
  obtain ⟨h', X, G⟩ := T.ex
  exact He.glo_ok X G (T.c.fact i h)
theorem Tx.free (T : Tx fa fn K mg) (i : Nat) {x : Str} (h : fa[i]? = some (.free x)) : mg x = none := by
  obtain ⟨h', X, G⟩ := T.ex
  exact He.free_ok X G (T.c.fact i h)
theorem Tx.cls (T : Tx fa fn K mg) (i : Nat) {x : Str} (h : fa[i]? = some (.cls x)) : Cls K (He.ga K x) := He.cls_ok (T.c.fact i h)
theorem Tx.noat (T : Tx fa fn K mg) (i : Nat) {x f : Str} (h : fa[i]? = some (.noat x f)) : NoAttr K (He.ga K x) f := He.noat_ok (T.c.fact i h)
theorem Tx.meth (T : Tx fa fn K mg) (i : Nat) {x m : Str} (h : fa[i]? = some (.meth x m)) : Meth K (He.ga K x) m (He.ma K (He.ga K x) m) := He.meth_ok (T.c.fact i h)
theorem Tx.mkr (T : Tx fa fn K mg) (i : Nat) {x : Str} (h : fa[i]? = some (.mkr x)) : Mk K (He.ga K x) (He.ma K (He.ga K x) "__init__") := He.mkr_ok (T.c.fact i h)
theorem Tx.def_ (T : Tx fa fn K mg) (i : Nat) {d : He.DefD} (h : fn[i]? = some d) : ∃ fd, FunD K d.name d.qual d.params d.body d.scope (d.dvs K) (d.kws K) (He.fAd K d.at_) fd := T.c.def_ i h
/-- a def by its name, with its promise -/
def Fk (P : Program) (w : World) (K : PySem.W.Frag) (mg : Str → Option Value) (base : Heap) (CX : CXT) (k : Nat) (x : Str) (ps : List Str) (sp : Sp) : Prop :=
  ∃ fd, FnOk P w K mg base CX k (He.ga K x) fd ps sp ∧ Binds K fd ps [] ∧ PySem.W.keepIn K (.ref (He.ga K x)) = true ∧ mg x = some (.ref (He.ga K x))
theorem fk_mk {CX : CXT} {k : Nat} {x qual : Str} {ps : List Str} {sp : Sp} {fd : FuncData} {params : Arguments} {body : List Stmt} {scope : Scope} (T : Tx fa fn K mg) (g : mg x = some (.ref (He.ga K x))) (F : FunD K x qual params body scope [] [] (He.ga K x) fd)
    (hb : ∀ (kV doc pm : Value) (an : Option Addr) (cdv ct : Value) (us : List Value), us.length = ps.length → bindArgs (PySem.W.fnOf x qual params body scope .none kV doc pm an cdv ct) ⟨us, []⟩ = pure (ps.zip us))
    (h : FnOk P w K mg base CX k (He.ga K x) fd ps sp) : Fk P w K mg base CX k x ps sp := ⟨fd, h, F.bindsN hb, F.kp, g⟩
end
end Sim

namespace Sim
open PySem L2 Evl
/-! ### the hook: facts, defs, and further Bools -/
abbrev AlE : Type := He.AlD × Bool
def obsE (fa : List He.Fa) (fn : List He.DefD) (ex : List (PySem.W.Frag → Bool)) (K : PySem.W.Frag) : AlE := (He.obsD fa fn K, ex.all fun e => e K)
def obsEG (n : Nat) (fa : List He.Fa) (fn : List He.DefD) (ex : List (PySem.W.Frag → Bool)) (g : Addr → Option Obj) : AlE := obsE fa fn ex (He.frG g (He.asD g n))
structure SaysE (fa : List He.Fa) (fn : List He.DefD) (ex : List (PySem.W.Frag → Bool)) (K : PySem.W.Frag) : Prop where
  d : He.SaysD fa fn K
  x : (ex.all fun e => e K) = true
def hookE (n : Nat) (fa : List He.Fa) (fn : List He.DefD) (ex : List (PySem.W.Frag → Bool)) : PySem.W.Hook where
  α := AlE
  obs := fun s => obsEG n fa fn ex s.heap.get?
  val := fun _ => (He.valD fn, true)
  says := fun _ h => ∃ K : PySem.W.Frag, K.In h ∧ SaysE fa fn ex K
  of := fun _ _ e => ⟨_, He.frG_in, congrArg (fun z : AlE => z.1) e, congrArg (fun z : AlE => z.2) e⟩
  keeps := fun _ _ _ ⟨K, hK, c⟩ k => ⟨K, PySem.W.Frag.In.keeps hK k, c⟩
theorem obsEG_eq {n : Nat} {fa : List He.Fa} {fn : List He.DefD} {ex : List (PySem.W.Frag → Bool)} {g : Addr → Option Obj} {s : Shared} (h : ∀ a, g a = s.heap.get? a) : obsEG n fa fn ex g = (hookE n fa fn ex).obs s := by
  have e : g = s.heap.get? := funext h
  rw [e] <;> rfl
structure TxE (fa : List He.Fa) (fn : List He.DefD) (es : List (PySem.W.Frag → Bool)) (K : PySem.W.Frag) (mg : Str → Option Value) : Prop extends Tx fa fn K mg where
  x : (es.all fun e => e K) = true
theorem TxE.mo {fa : List He.Fa} {fn : List He.DefD} {ex : List (PySem.W.Frag → Bool)} {K : PySem.W.Frag} {mg : Str → Option Value} (T : TxE fa fn ex K mg) (i : Nat) {e : PySem.W.Frag → Bool} (h : ex[i]? = some e) : e K = true := List.all_eq_true.mp T.x e (List.mem_of_getElem? h)
theorem TxE.con {fa : List He.Fa} {fn : List He.DefD} {ex : List (PySem.W.Frag → Bool)} {K : PySem.W.Frag} {mg : Str → Option Value} (T : TxE fa fn ex K mg) (i : Nat) {C f : Str} {v : He.Dv} (h : ex[i]? = some fun K => He.conB K C f v) (hc : PySem.W.copiedNames.contains f = false := by decide) : ∃ u, Con K (He.ga K C) f (v.v K) u := He.conB_ok (T.mo i h) hc
/-! ### objects -/
structure Pd where
  p : Hp → V → Prop
  mono : ∀ {H H' : Hp} {v : V}, Ex H H' → p H v → p H' v
def pd {α : Type} (R : Rep α) (x : α) : Pd := ⟨fun H v => R.r H v x, fun e h => R.mono e h⟩
def Fl (ns : List Str) (ps : List Pd) (H : Hp) (fs : List (Str × V)) : Prop := fs.map (·.1) = ns ∧ Paired (fun v (q : Pd) => q.p H v) (fs.map (·.2)) ps
theorem Fl.mono {ns : List Str} {ps : List Pd} {H H' : Hp} {fs : List (Str × V)} (e : Ex H H') (h : Fl ns ps H fs) : Fl ns ps H' fs := ⟨h.1, Paired.mapP h.2 fun _ q => q.mono e⟩
def rObj {α : Type} (C : Addr) (ns : List Str) (fl : α → List Pd) : Rep α := ⟨fun H v x => ∃ a dx fs, v = .ref a ∧ H a = some (.ins C dx fs) ∧ Fl ns (fl x) H fs, fun e ⟨a, dx, fs, h1, h2, h3⟩ => ⟨a, dx, fs, h1, e a _ h2, h3.mono e⟩⟩
def cI (C : Addr) (ns : List Str) (ps : List Pd) : CP := ⟨fun G o => ∃ dx fs, o = .ins C dx fs ∧ Fl ns ps G fs, fun e ⟨dx, fs, h1, h2⟩ => ⟨dx, fs, h1, h2.mono e⟩⟩
theorem look_at {ns : List Str} : ∀ {fs : List (Str × V)} {f : Str} {i : Nat} {v : V}, fs.map (·.1) = ns → (ns.findIdx? (fun x => x == f)) = some i → (fs.map (·.2))[i]? = some v → fs.lookup f = some v := by
  intro fs
  induction fs generalizing ns with
  | nil => intro f i v h1 h2 h3; simp at h3
  | cons q fs ih =>
    intro f i v h1 h2 h3
    obtain ⟨n, w⟩ := q
    subst h1
    rw [List.map_cons, List.findIdx?_cons] at h2
    rw [List.lookup_cons]
    by_cases hn : (n == f) = true
    · rw [if_pos hn] at h2
      cases h2
      have hf : (f == n) = true := by rw [beq_iff_eq] at hn ⊢; exact hn.symm
      rw [hf]
      simpa using h3
    · rw [if_neg hn] at h2
      obtain ⟨j, hj, e⟩ := Option.map_eq_some_iff.mp h2
      subst e
      have hf : (f == n) = false := by
        cases q : (f == n) with
        | false => rfl
        | true => rw [beq_iff_eq] at q; exact absurd (by rw [beq_iff_eq]; exact q.symm) hn
      rw [hf]
      exact ih rfl hj (by simpa using h3)
theorem look_no {ns : List Str} : ∀ {fs : List (Str × V)} {f : Str}, fs.map (·.1) = ns → ns.contains f = false → fs.lookup f = none := by
  intro fs
  induction fs generalizing ns with
  | nil => intro f _ _; rfl
  | cons q fs ih =>
    intro f h1 h2
    obtain ⟨n, w⟩ := q
    subst h1
    rw [List.map_cons, List.contains_cons, Bool.or_eq_false_iff] at h2
    rw [List.lookup_cons, h2.1]
    exact ih rfl h2.2
theorem putF_new {f : Str} {v : V} : ∀ {fs : List (Str × V)}, (fs.map (·.1)).contains f = false → putF f v fs = fs ++ [(f, v)]
  | [], _ => rfl
  | (n, w) :: fs, h => by
    rw [List.map_cons, List.contains_cons, Bool.or_eq_false_iff] at h
    have hn : ¬ (n = f) := fun e => by subst e; simp at h
    unfold putF
    rw [if_neg hn, putF_new h.2]; rfl
section
variable {K : PySem.W.Frag} {σ : L2.St} {G0 H0 G H G2 H2 W : Hp} {ls : List Addr} {cs : Cs} {l C : Addr} {cp cp' : CP} {ta tb te tc to : TE} {t u : TT} {α β γ ι κ : Type} {R : Rep α} {S : Rep β} {T : Rep γ} {A : AR ι} {D : Ends} {tu tv tz : TS} {g : TG} {ns : List Str} {fl : α → List Pd}
theorem nnO_ : (rObj C ns fl).NN := fun ⟨a, _, _, h, _⟩ => by rw [h]; simp
/-- o.f -/
theorem e_fld {m : Option α} {f : Str} (i : Nat) (p : α → β) (h : E to σ G W (rObj C ns fl) m) (hc : Cls K C) (hn : NoAttr K C f) (hi : ns.findIdx? (fun x => x == f) = some i) (hp : ∀ x, (fl x)[i]? = some (pd S (p x))) : E (tFld K to f) σ G W S (m >>= fun x => some (p x)) := fun z hz H e e' Q q => by
  obtain ⟨x, hx, hz⟩ := bindS hz
  cases hz
  refine h x hx H e e' _ fun v H1 G1 u r => ?_
  obtain ⟨a, dx, fs, rfl, h2, h3⟩ := r
  obtain ⟨w, hw, r2⟩ := pr_get h3.2 (hp x)
  exact ⟨a, C, dx, fs, w, rfl, u.gh a _ h2, hc, hn, look_at h3.1 hi hw, q w H1 G1 u r2⟩
/-- o.NAME, of the class -/
theorem e_con {m : Option α} {f : Str} {v : V} {uu : Value} {x : β} (h : E to σ G W (rObj C ns fl) m) (hc : Cls K C) (hk : Con K C f v uu) (hi : ns.contains f = false) (hv : ∀ H, S.r H v x) : E (tCon K to f) σ G W S (m >>= fun _ => some x) := fun z hz H e e' Q q => by
  obtain ⟨y, hy, hz⟩ := bindS hz
  cases hz
  refine h y hy H e e' _ fun v H1 G1 u r => ?_
  obtain ⟨a, dx, fs, rfl, h2, h3⟩ := r
  exact ⟨a, C, dx, fs, _, uu, rfl, u.gh a _ h2, hc, hk, look_no h3.1 hi, q _ H1 G1 u (hv G1)⟩
/-- o.m(..) -/
theorem e_meth {m : Option α} {mi : Option ι} {me : Str} {f : α × ι → Option γ} {ta : TA} {X : XK} (h : E to σ G W (rObj C ns fl) m) (ha : EA ta σ G W A mi) (hi : ns.contains me = false) : E (tMeth C me (PF (aC (rObj C ns fl) A) T f) [] X to ta) σ G W T (m >>= fun o => mi >>= fun i => f (o, i)) := fun z hz H e e' Q q => by
  obtain ⟨x, hx, hz⟩ := bindS hz
  obtain ⟨y, hy, hz⟩ := bindS hz
  refine h x hx H e e' _ fun v H1 G1 u r => ?_
  obtain ⟨a, dx, fs, rfl, h2, h3⟩ := r
  refine ⟨a, dx, fs, rfl, u.gh a _ h2, look_no h3.1 hi, ?_⟩
  refine (ha.mono u.gg (e'.trans u.hh)) y hy H1 u.gh (Ex.refl _) _ fun vs H3 G3 u3 r3 => ?_
  rw [List.append_nil]
  exact ⟨G3, (x, y), z, u3.gh, ⟨.ref a, vs, rfl, ⟨a, dx, fs, rfl, u3.gg a _ h2, h3.mono u3.gg⟩, r3⟩, hz, fun v H4 G4 u4 r4 => q v H4 G4 ((u.trans u3).trans u4) r4⟩
theorem el_meth {m : Option α} {mi : Option ι} {me : Str} {f : α × ι → Option (List γ)} {ta : TA} {X : XK} (h : E to σ G W (rObj C ns fl) m) (ha : EA ta σ G W A mi) (hi : ns.contains me = false) : EL (tMeth C me (PL (aC (rObj C ns fl) A) T f) [] X to ta) σ G W T (m >>= fun o => mi >>= fun i => f (o, i)) := fun z hz H e e' Q q => by
  obtain ⟨x, hx, hz⟩ := bindS hz
  obtain ⟨y, hy, hz⟩ := bindS hz
  refine h x hx H e e' _ fun v H1 G1 u r => ?_
  obtain ⟨a, dx, fs, rfl, h2, h3⟩ := r
  refine ⟨a, dx, fs, rfl, u.gh a _ h2, look_no h3.1 hi, ?_⟩
  refine (ha.mono u.gg (e'.trans u.hh)) y hy H1 u.gh (Ex.refl _) _ fun vs H3 G3 u3 r3 => ?_
  rw [List.append_nil]
  exact ⟨G3, (x, y), z, u3.gh, ⟨.ref a, vs, rfl, ⟨a, dx, fs, rfl, u3.gg a _ h2, h3.mono u3.gg⟩, r3⟩, hz, fun p H4 G4 hp u4 r4 => q p H4 G4 (fresh_back (u.hh.trans u3.hh) hp) ((u.trans u3).trans u4) r4⟩
/-- the promise of an __init__: fields of the new object -/
def PI {ι α : Type} (C : Addr) (A : AR ι) (ns : List Str) (fl : α → List Pd) (f : ι → Option α) : Sp := fun vs H Q _ => ∃ G x ws i o, vs = .ref x :: ws ∧ Wd G H [(x, cI C [] [])] ∧ A.r G ws i ∧ f i = some o ∧
  ∀ H2 G2, Fr G H G2 H2 [x] → Wd G2 H2 [(x, cI C ns (fl o))] → Q .non H2
theorem ob_freeze {p : Addr} {ps : List Pd} (w : Wd G H [(p, cI C ns ps)]) : ∃ G2, Ex G G2 ∧ Ex G2 H ∧ (∀ a, a ≠ p → G a = none → G2 a = none) ∧ ∃ dx fs, G2 p = some (.ins C dx fs) ∧ Fl ns ps G2 fs := by
  obtain ⟨h1, o, h2, dx, fs, rfl, h3⟩ := w.head
  refine ⟨upd G p (.ins C dx fs), Ex.new h1, fun a u' e => ?_, fun a ne h => by rw [upd_ne ne]; exact h, dx, fs, upd_same, h3.mono (Ex.new h1)⟩
  by_cases q : a = p
  · subst q; rw [upd_same] at e; cases e; exact h2
  · rw [upd_ne q] at e; exact w.ex a u' e
theorem new_ins {x dx : Addr} (e : Ex G H) (nx : H x = none) (ndx : H dx = none) (ne : dx ≠ x) : Wd G (upd (upd H dx (.own x)) x (.ins C dx [])) [(x, cI C [] [])] := by
  have nx' : (upd H dx (.own x)) x = none := by rw [upd_ne ne.symm]; exact nx
  have e1 : Ex G (upd H dx (.own x)) := e.trans (Ex.new ndx)
  exact (Wd.nil e1).new nx' ⟨dx, [], rfl, rfl, .nil⟩
/-- C(..) -/
theorem e_make {f : ι → Option α} {ta : TA} {mi : Option ι} {X : XK} (ha : EA ta σ G W A mi) : E (tMake C (PI C A ns fl f) [] X ta) σ G W (rObj C ns fl) (mi >>= f) := fun z hz H e e' Q q => by
  obtain ⟨i, hi, hz⟩ := bindS hz
  refine ha i hi H e e' _ fun vs H1 G1 u1 r1 => ?_
  intro x dx nx ndx ne
  rw [List.append_nil]
  have w1 : Wd G1 (upd (upd H1 dx (.own x)) x (.ins C dx [])) [(x, cI C [] [])] := new_ins u1.gh nx ndx ne
  refine ⟨G1, x, vs, i, z, rfl, w1, r1, hz, fun H2 G2 fr w2 => ⟨rfl, ?_⟩⟩
  obtain ⟨G3, k1, k2, k3, dx', fs, k4, k5⟩ := ob_freeze w2
  have hh : Ex H1 H2 := fun a o h => by
    have na : a ≠ x := ne_of_none h nx
    have nd : a ≠ dx := ne_of_none h ndx
    exact fr.fr a o (by rw [upd_ne na, upd_ne nd]; exact h) fun z => na (List.mem_singleton.mp z)
  have up : Up G1 H1 G3 H2 := ⟨fr.gg.trans k1, k2, hh, fun a h1 h2 => by
    have na : a ≠ x := fun z => by subst z; exact h1 nx
    have nd : a ≠ dx := fun z => by subst z; exact h1 ndx
    exact k3 a na (fr.nw a (by rw [upd_ne na, upd_ne nd]; exact h1) h2)⟩
  exact q _ H2 G3 (u1.trans up) ⟨x, dx', fs, rfl, k4, k5⟩
/-- self.f = e, a new field -/
theorem x_fldN {i j : Nat} {f : Str} {m : Option β} {x : β} {ps : List Pd} (w : Wo G0 H0 ls G H cs) (hc : cs[j]? = some (l, cI C ns ps)) (hi : σ[i]? = some (some (.ref l))) (h : E te σ G H S m) (hm : m = some x) (hC : Cls K C) (hn : NoAttr K C f) (hz : ns.contains f = false) (hs : ns.length < 1000)
    (k : ∀ H2 G2, Wo G0 H0 ls G2 H2 (cs.set j (l, cI C (ns ++ [f]) (ps ++ [pd S x]))) → Ex G G2 → tz D σ H2) : tSeq (sFld K (tVar i) te f) tz D σ H :=
  h x hm H w.ex (Ex.refl _) (fun y H1 => tVar i σ H1 fun x H2 => ∃ a C dx fs, x = .ref a ∧ H2 a = some (.ins C dx fs) ∧ Cls K C ∧ NoAttr K C f ∧ fs.length < 1000 ∧ tz D σ (upd H2 a (.ins C dx (putF f y fs)))) fun v H3 G3 u r => by
    have w3 := w.up u
    obtain ⟨_, o3, k2, dx, fs, rfl, k3⟩ := w3.w.getAt hc
    refine ⟨.ref l, hi, l, C, dx, fs, rfl, k2, hC, hn, by rw [← List.length_map (f := (·.1)), k3.1]; exact hs, ?_⟩
    rw [putF_new (by rw [k3.1]; exact hz)]
    refine k _ _ (w3.writeAt hc ⟨dx, _, rfl, ?_, ?_⟩) u.gg
    · rw [List.map_append, k3.1]; rfl
    · rw [List.map_append]; exact pr_app k3.2 (.cons r .nil)
theorem o_try {tb : TS} (h : tb { D with nx := tz D } σ H) : tSeq tb tz D σ H := h
theorem x_call {m : Option α} {x : α} (w : Wo G0 H0 ls G H cs) (h : E te σ G H R m) (hm : m = some x) (k : ∀ H2, Wo G0 H0 ls G H2 cs → tz D σ H2) : tSeq (tDrop te) tz D σ H :=
  h x hm H w.ex (Ex.refl _) (fun _ H1 => tz D σ H1) fun v H2 G2 u r => k H2 (w.sc u.hh)
/-! ### isinstance, the kind known -/
def KTy (R : Rep α) (n : String) : Prop := ∀ {K : PySem.W.Frag} {H : Hp} {v : V} {x : α}, R.r H v x → TyX K H v (.type n)
theorem ktI : KTy rI "int" := fun h => by rw [show _ = V.int _ from h]; exact .base (.int _)
theorem ktB : KTy rB "bool" := fun h => by rw [show _ = V.bl _ from h]; exact .base (.bl _)
theorem ktS : KTy rS "str" := fun h => by rw [show _ = V.str _ from h]; exact .base (.str _)
theorem ktL : KTy (rL R) "list" := fun ⟨a, vs, h, h2, _⟩ => by rw [h]; exact .base (.lst h2)
theorem ktT : KTy (rT R) "tuple" := fun ⟨a, vs, h, h2, _⟩ => by rw [h]; exact .base (.tup h2)
theorem ktP : KTy (rP R S) "tuple" := fun ⟨a, _, _, h, h2, _⟩ => by rw [h]; exact .base (.tup h2)
abbrev rIsiE (K : PySem.W.Frag) : List V → Hp → VK → Prop := rIsi K
theorem e_isi {m : Option α} {n c : String} {b : Bool} (h : E te σ G W R m) (hk : KTy R n) (hb : kitB n c = some b) : E (tCB (rIsi K) (tCons te (tCons (tC (.ty c)) tNil))) σ G W rB (m >>= fun _ => some b) := fun z hz H e e' Q q => by
  obtain ⟨x, hx, hz⟩ := bindS hz
  cases hz
  refine h x hx H e e' _ fun v H1 G1 u r => ?_
  exact ⟨v, .ty c, .type n, .type c, b, rfl, .ty c, hk (R.mono u.gh r), kit_ty hb, q _ H1 G1 u rfl⟩
/-! ### == of data -/
def rEqP (K : PySem.W.Frag) : R2 := fun x y H Q => ∃ d e, Dp K H x d ∧ Dp K H y e ∧ (d.plain = true ∧ d.depth ≤ 64) ∧ (e.plain = true ∧ e.depth ≤ 64) ∧ Q (.bl (PyData.eqv d e)) H
def rNeP (K : PySem.W.Frag) : R2 := fun x y H Q => ∃ d e, Dp K H x d ∧ Dp K H y e ∧ (d.plain = true ∧ d.depth ≤ 64) ∧ (e.plain = true ∧ e.depth ≤ 64) ∧ Q (.bl (!PyData.eqv d e)) H
theorem op_eqP {X : Cx} (hu : X.A.units + 64 < cLine) : OpR X (compareOp .Eq) (rEqP X.K) := by
  intro pins s σ H x y v u Q I rx ry h
  obtain ⟨d, e, hd, he, sd, se, q⟩ := h
  obtain ⟨as, r1⟩ := Dp.reads I d x v hd rx
  obtain ⟨bs, r2⟩ := Dp.reads I e y u he ry
  exact SeqAt.eq_plain r1 r2 sd.1 se.1 (by have := sd.2; omega) ⟨.bl _, H, I, rfl, q⟩
theorem op_neP {X : Cx} (hu : X.A.units + 64 < cLine) : OpR X (compareOp .NotEq) (rNeP X.K) := by
  intro pins s σ H x y v u Q I rx ry h
  obtain ⟨d, e, hd, he, sd, se, q⟩ := h
  obtain ⟨as, r1⟩ := Dp.reads I d x v hd rx
  obtain ⟨bs, r2⟩ := Dp.reads I e y u he ry
  exact SeqAt.ne_plain r1 r2 sd.1 se.1 (by have := sd.2; omega) ⟨.bl _, H, I, rfl, q⟩
structure Dt (R : Rep α) (d : α → PyData) (n : Nat) : Prop where
  dp : ∀ {K : PySem.W.Frag} {H : Hp} {v : V} {x : α}, R.r H v x → Dp K H v (d x)
  lay : ∀ x, (d x).plain = true
  dep : ∀ x, (d x).depth ≤ n
  eq : ∀ x y, PyData.eqv (d x) (d y) = true ↔ x = y
theorem dtI : Dt rI PyData.int 0 := ⟨fun h => by rw [show _ = V.int _ from h]; exact .int _, fun _ => rfl, fun _ => Nat.le_refl _, fun x y => by simp [PyData.eqv]⟩
theorem dtB : Dt rB PyData.bool 0 := ⟨fun h => by rw [show _ = V.bl _ from h]; exact .bl _, fun _ => rfl, fun _ => Nat.le_refl _, fun x y => by simp [PyData.eqv]⟩
theorem eqvD {d : α → PyData} {n : Nat} [DecidableEq α] (h : Dt R d n) (x y : α) : PyData.eqv (d x) (d y) = decide (x = y) := by
  by_cases e : x = y
  · rw [decide_eq_true e]; exact (h.eq x y).mpr e
  · rw [decide_eq_false e]
    cases q : PyData.eqv (d x) (d y) with
    | false => rfl
    | true => exact absurd ((h.eq x y).mp q) e
theorem rr_eqD {d : α → PyData} {n : Nat} [DecidableEq α] (h : Dt R d n) (hn : n ≤ 64) : RR (rEqP K) R R rB (fun x y => some (decide (x = y))) := fun v w x y z H G hv hw hz e Q q => by
  cases hz
  exact ⟨d x, d y, h.dp (R.mono e hv), h.dp (R.mono e hw), ⟨h.lay x, Nat.le_trans (h.dep x) hn⟩, ⟨h.lay y, Nat.le_trans (h.dep y) hn⟩, q _ H G (Up.refl e) (congrArg V.bl (eqvD h x y))⟩
theorem rr_neD {d : α → PyData} {n : Nat} [DecidableEq α] (h : Dt R d n) (hn : n ≤ 64) : RR (rNeP K) R R rB (fun x y => some (!decide (x = y))) := fun v w x y z H G hv hw hz e Q q => by
  cases hz
  exact ⟨d x, d y, h.dp (R.mono e hv), h.dp (R.mono e hw), ⟨h.lay x, Nat.le_trans (h.dep x) hn⟩, ⟨h.lay y, Nat.le_trans (h.dep y) hn⟩, q _ H G (Up.refl e) (congrArg (fun b => V.bl (!b)) (eqvD h x y))⟩
end
end Sim

namespace Sim
open PySem L2 Evl
section
variable {K : PySem.W.Frag} {σ : L2.St} {G0 H0 G H G2 H2 W : Hp} {ls : List Addr} {cs : Cs} {l C : Addr} {cp cp' : CP} {ta tb te tc to : TE} {t u : TT} {α β γ ι κ : Type} {R : Rep α} {S : Rep β} {T : Rep γ} {A : AR ι} {D : Ends} {tu tv tz : TS} {g : TG} {ns : List Str} {fl : α → List Pd}
/-! ### a list lent to a def that only reads it -/
/-- at l, its items standing in the data heap, it itself not -/
structure Lent (G W : Hp) (l : Addr) (B : Rep κ) (ys : List κ) : Prop where
  n : G l = none
  at_ : ∃ vs, W l = some (.lst vs) ∧ Paired (B.r G) vs ys
def PB (A : AR ι) (ad : ι → Addr) (B : Rep κ) (R : Rep α) (f : List κ → ι → Option α) : Sp := fun vs H Q _ => ∃ G i ys x, Ex G H ∧ A.r G vs i ∧ Lent G H (ad i) B ys ∧ f ys i = some x ∧ ∀ v H2 G2, Up G H G2 H2 → R.r G2 v x → Q v H2
def PIB (C : Addr) (A : AR ι) (ad : ι → Addr) (B : Rep κ) (ns : List Str) (fl : α → List Pd) (f : List κ → ι → Option α) : Sp := fun vs H Q _ => ∃ G x ws i ys o, vs = .ref x :: ws ∧ Wd G H [(x, cI C [] [])] ∧ A.r G ws i ∧ Lent G H (ad i) B ys ∧ f ys i = some o ∧
  ∀ H2 G2, Fr G H G2 H2 [x] → Wd G2 H2 [(x, cI C ns (fl o))] → Q .non H2
theorem Wo.lent {i : Nat} {B : Rep κ} {ys : List κ} (w : Wo G0 H0 ls G H cs) (h : cs[i]? = some (l, cL B ys)) : Lent G H l B ys := by
  obtain ⟨h1, o, h2, vs, rfl, h3⟩ := w.w.getAt h
  exact ⟨h1, vs, h2, h3⟩
/-- still lent, as the def goes on -/
theorem Wo.lentOf {B : Rep κ} {ys : List κ} (w : Wo G0 H0 ls G H cs) (L : Lent G0 H0 l B ys) (h : l ∉ ls) : Lent G H l B ys := by
  obtain ⟨vs, h2, h3⟩ := L.at_
  exact ⟨w.f.nw _ (by rw [h2]; simp) L.n, vs, w.f.fr _ _ h2 h, Paired.mapP h3 fun _ _ => B.mono w.f.gg⟩
theorem Lent.up {B : Rep κ} {ys : List κ} {G1 H1 H : Hp} (L : Lent G W l B ys) (e' : Ex W H) (u : Up G H G1 H1) : Lent G1 H1 l B ys := by
  obtain ⟨vs, h2, h3⟩ := L.at_
  exact ⟨u.nw _ (by rw [e' _ _ h2]; simp) L.n, vs, u.hh _ _ (e' _ _ h2), Paired.mapP h3 fun _ _ => B.mono u.gg⟩
theorem Lent.rl {B : Rep κ} {ys : List κ} (L : Lent G W l B ys) (e : Ex G W) : (rL B).r W (.ref l) ys := by
  obtain ⟨vs, h2, h3⟩ := L.at_
  exact ⟨l, vs, rfl, h2, Paired.mapP h3 fun _ _ => B.mono e⟩
theorem Lent.ne {B : Rep κ} {ys : List κ} {x : Addr} {ps : List Pd} (L : Lent G H l B ys) (w : Wd G H [(x, cI C ns ps)]) : l ∉ [x] := fun z => by
  obtain ⟨vs, h2, _⟩ := L.at_
  obtain ⟨_, o, k2, dx, fs, rfl, _⟩ := w.head
  rw [List.mem_singleton.mp z, k2] at h2
  cases h2
theorem x_forN {i : Nat} {xs : List α} (w : Wo G0 H0 ls G H cs) (L : Lent G0 H0 l R xs) (hl : l ∉ ls) (hi : σ[i]? = some (some (.ref l))) (P : Nat → Hp → Hp → L2.St → Prop) (hP : ∀ i G' H' σ', P i G' H' σ' → ∃ cs', Wo G0 H0 ls G' H' cs')
    (h0 : P 0 G H σ)
    (hs : ∀ i x v σ' G' H', xs[i]? = some x → P i G' H' σ' → R.r G' v x → g v σ' H' fun σ2 H2 => tu { D with nx := fun σ' H' => ∃ G', P (i + 1) G' H' σ', ct := fun σ' H' => ∃ G', P (i + 1) G' H' σ', bk := tz D } σ2 H2)
    (hd : ∀ σ' G' H', P xs.length G' H' σ' → tz D σ' H') : tSeq (tFor (iList K (tVar i)) g tu) tz D σ H := by
  obtain ⟨vs, h2, h3⟩ := L.at_
  refine ⟨.ref l, hi, l, rfl, ⟨vs, Or.inl (Or.inl (w.f.fr _ _ h2 hl))⟩, for_list (K := K) (a := l) (xs := vs) (D := { D with nx := tz D }) (fun i σ' H' => ∃ G', P i G' H' σ') ⟨G, h0⟩ ?_ ?_ ?_⟩
  · rintro i σ' H' _ ⟨G', p⟩
    obtain ⟨cs', w'⟩ := hP _ _ _ _ p
    exact Or.inl (Or.inl (w'.f.fr _ _ h2 hl))
  · rintro i y σ' H' hy ⟨G', p⟩
    obtain ⟨x, hx, r⟩ := pr_get' h3 hy
    obtain ⟨cs', w'⟩ := hP _ _ _ _ p
    exact hs i x y σ' G' H' hx p (R.mono w'.f.gg r)
  · rintro σ' H' ⟨G', p⟩
    rw [h3.length] at p
    exact hd σ' G' H' p
/-- f(.., cell, ..), the cell only read -/
theorem e_callB {B : Rep κ} {ad : ι → Addr} {f : List κ → ι → Option γ} {ys : List κ} {ta : TA} {mi : Option ι} {X : XK} (ha : EA ta σ G W A mi) (L : Lent G W l B ys) (hl : ∀ i, mi = some i → ad i = l) : E (tCall (PB A ad B T f) [] X ta) σ G W T (mi >>= fun i => f ys i) := fun z hz H e e' Q q => by
  obtain ⟨i, hi, hz⟩ := bindS hz
  refine ha i hi H e e' _ fun vs H1 G1 u1 r1 => ?_
  rw [List.append_nil]
  have := hl i hi
  subst this
  exact ⟨G1, i, ys, z, u1.gh, r1, L.up e' u1, hz, fun v H2 G2 u2 r => q v H2 G2 (u1.trans u2) r⟩
theorem e_makeB {B : Rep κ} {ad : ι → Addr} {f : List κ → ι → Option α} {ys : List κ} {ta : TA} {mi : Option ι} {X : XK} (ha : EA ta σ G W A mi) (L : Lent G W l B ys) (hl : ∀ i, mi = some i → ad i = l) : E (tMake C (PIB C A ad B ns fl f) [] X ta) σ G W (rObj C ns fl) (mi >>= fun i => f ys i) := fun z hz H e e' Q q => by
  obtain ⟨i, hi, hz⟩ := bindS hz
  refine ha i hi H e e' _ fun vs H1 G1 u1 r1 => ?_
  have := hl i hi
  subst this
  intro x dx nx ndx ne
  rw [List.append_nil]
  have w1 : Wd G1 (upd (upd H1 dx (.own x)) x (.ins C dx [])) [(x, cI C [] [])] := new_ins u1.gh nx ndx ne
  have L1 := L.up e' u1
  have L2 : Lent G1 (upd (upd H1 dx (.own x)) x (.ins C dx [])) (ad i) B ys := by
    obtain ⟨vs', h2, h3⟩ := L1.at_
    exact ⟨L1.n, vs', by rw [upd_ne (ne_of_none h2 nx), upd_ne (ne_of_none h2 ndx)]; exact h2, h3⟩
  refine ⟨G1, x, vs, i, ys, z, rfl, w1, r1, L2, hz, fun H2 G2 fr w2 => ⟨rfl, ?_⟩⟩
  obtain ⟨G3, k1, k2, k3, dx', fs, k4, k5⟩ := ob_freeze w2
  have hh : Ex H1 H2 := fun a o h => by
    have na : a ≠ x := ne_of_none h nx
    have nd : a ≠ dx := ne_of_none h ndx
    exact fr.fr a o (by rw [upd_ne na, upd_ne nd]; exact h) fun z => na (List.mem_singleton.mp z)
  have up : Up G1 H1 G3 H2 := ⟨fr.gg.trans k1, k2, hh, fun a h1 h2 => by
    have na : a ≠ x := fun z => by subst z; exact h1 nx
    have nd : a ≠ dx := fun z => by subst z; exact h1 ndx
    exact k3 a na (fr.nw a (by rw [upd_ne na, upd_ne nd]; exact h1) h2)⟩
  exact q _ H2 G3 (u1.trans up) ⟨x, dx', fs, rfl, k4, k5⟩
end
/-! ### a method by its name, with its promise -/
def Fm (P : Program) (w : World) (K : PySem.W.Frag) (mg : Str → Option Value) (base : Heap) (CX : CXT) (k : Nat) (c m : Str) (ps : List Str) (sp : Sp) : Prop :=
  ∃ fd, FnOk P w K mg base CX k (He.ma K (He.ga K c) m) fd ps sp ∧ Binds K fd ps []
theorem fm_mk {K : PySem.W.Frag} {mg : Str → Option Value} {P : Program} {w : World} {base : Heap} {CX : CXT} {k : Nat} {c m x qual : Str} {ps : List Str} {sp : Sp} {fd : FuncData} {params : Arguments} {body : List Stmt} {scope : Scope} (F : FunD K x qual params body scope [] [] (He.ma K (He.ga K c) m) fd)
    (hb : ∀ (kV doc pm : Value) (an : Option Addr) (cdv ct : Value) (us : List Value), us.length = ps.length → bindArgs (PySem.W.fnOf x qual params body scope .none kV doc pm an cdv ct) ⟨us, []⟩ = pure (ps.zip us))
    (h : FnOk P w K mg base CX k (He.ma K (He.ga K c) m) fd ps sp) : Fm P w K mg base CX k c m ps sp := ⟨fd, h, F.bindsN hb⟩
/-! ### data that is compared -/
section
variable {α β : Type} {R : Rep α} {S : Rep β}
theorem pr_dp {d : α → PyData} {n : Nat} (h : Dt R d n) {K : PySem.W.Frag} {H : Hp} : ∀ {vs : List V} {xs : List α}, Paired (R.r H) vs xs → DpAll K H vs (xs.map d)
  | _, _, .nil => .nil
  | _, _, .cons r t => .cons (h.dp r) (pr_dp h t)
theorem layAll {d : α → PyData} {n : Nat} (h : Dt R d n) : ∀ xs : List α, PyData.plainAll (xs.map d) = true
  | [] => rfl
  | x :: xs => Bool.and_eq_true_iff.mpr ⟨h.lay x, layAll h xs⟩
theorem depAll {d : α → PyData} {n : Nat} (h : Dt R d n) : ∀ xs : List α, PyData.depthAll (xs.map d) ≤ n
  | [] => Nat.zero_le _
  | x :: xs => Nat.max_le.mpr ⟨h.dep x, depAll h xs⟩
theorem eqAll {d : α → PyData} {n : Nat} (h : Dt R d n) : ∀ xs ys : List α, PyData.eqvAll (xs.map d) (ys.map d) = true ↔ xs = ys
  | [], [] => by simp [PyData.eqvAll]
  | x :: xs, y :: ys => by
    simp only [List.map_cons, PyData.eqvAll, Bool.and_eq_true, h.eq, eqAll h xs ys, List.cons.injEq]
  | [], y :: ys => by simp [PyData.eqvAll]
  | x :: xs, [] => by simp [PyData.eqvAll]
theorem dtL {d : α → PyData} {n : Nat} (h : Dt R d n) : Dt (rL R) (fun xs => PyData.list (xs.map d)) (n + 1) :=
  ⟨fun ⟨a, vs, e, h2, h3⟩ => by rw [e]; exact .lst (Or.inl (Or.inl h2)) (pr_dp h h3), fun xs => layAll h xs, fun xs => Nat.succ_le_succ (depAll h xs), fun xs ys => by simp only [PyData.eqv]; exact eqAll h xs ys⟩
theorem dtT {d : α → PyData} {n : Nat} (h : Dt R d n) : Dt (rT R) (fun xs => PyData.tuple (xs.map d)) (n + 1) :=
  ⟨fun ⟨a, vs, e, h2, h3⟩ => by rw [e]; exact .tup (Or.inl (Or.inl h2)) (pr_dp h h3), fun xs => layAll h xs, fun xs => Nat.succ_le_succ (depAll h xs), fun xs ys => by simp only [PyData.eqv]; exact eqAll h xs ys⟩
theorem dtP {d : α → PyData} {f : β → PyData} {n k : Nat} (h : Dt R d n) (h' : Dt S f k) : Dt (rP R S) (fun p => PyData.tuple [d p.1, f p.2]) (max n k + 1) :=
  ⟨fun ⟨a, x, y, e, h2, h3, h4⟩ => by rw [e]; exact .tup (Or.inl (Or.inl h2)) (.cons (h.dp h3) (.cons (h'.dp h4) .nil)), fun p => by
    show (PyData.plain _ && (PyData.plain _ && true)) = true
    rw [h.lay, h'.lay]; rfl, fun p => by
    show max (PyData.depth _) (max (PyData.depth _) 0) + 1 ≤ _
    have := h.dep p.1; have := h'.dep p.2; omega, fun p q => by
    simp only [PyData.eqv, PyData.eqvAll, Bool.and_eq_true, h.eq, h'.eq, and_true]
    exact ⟨fun ⟨a, b⟩ => Prod.ext a b, fun e => by subst e; exact ⟨rfl, rfl⟩⟩⟩
end
end Sim
namespace Sim
open PySem L2 Evl
section
variable {K : PySem.W.Frag} {σ : L2.St} {G0 H0 G H G2 H2 W : Hp} {ls : List Addr} {cs : Cs} {l C : Addr} {te : TE} {α β : Type} {R : Rep α} {S : Rep β} {ns : List Str}
/-- the script -/
def rScr (K : PySem.W.Frag) : Rep (List Int) := ⟨fun H v xs => ∃ a, v = .ref a ∧ SqL K H a (xs.map V.int), fun e ⟨a, h1, h2⟩ => ⟨a, h1, ex_l e h2⟩⟩
theorem rr_ixScr : RR (rIxL K) (rScr K) rI rI (fun xs i => atI xs i) := fun v w xs i z H G hv hw hz e Q q => by
  obtain ⟨a, rfl, h2⟩ := hv
  cases hw
  have hz' : (ixN xs.length i).bind (fun j => xs[j]?) = some z := hz
  cases hj : ixN xs.length i with
  | none => rw [hj] at hz'; cases hz'
  | some j =>
    rw [hj] at hz'
    have hz2 : xs[j]? = some z := hz'
    refine ⟨a, _, i, .int z, rfl, rfl, ex_l e h2, ?_, q _ H G (Up.refl e) rfl⟩
    show (ixN (xs.map V.int).length i).bind (fun j => (xs.map V.int)[j]?) = some (.int z)
    rw [List.length_map, hj]
    show (xs.map V.int)[j]? = _
    rw [List.getElem?_map, hz2]; rfl
theorem rc_lenScr : RC (rLn K) (aC (rScr K) aN) rI (fun i => some (i.1.length : Int)) := fun vs i z H G hv hz e Q q => by
  cases hz
  obtain ⟨v, ws, rfl, ⟨a, rfl, h2⟩, rfl⟩ := hv
  refine ⟨a, _, rfl, Or.inl (ex_l e h2), q _ H G (Up.refl e) ?_⟩
  show V.int _ = V.int _
  rw [List.length_map]
def powM (a b : Int) : Option Int := if 0 ≤ b ∧ b ≤ 1000000 ∧ a.natAbs < 2 ^ 64 then some (a ^ b.toNat) else none
theorem rr_pow : RR (L2.rI CPow fun i j => .int (i ^ j.toNat)) rI rI rI powM := rr_I fun i j z h => by
  unfold powM at h
  split at h
  · rename_i hc; cases h; exact ⟨hc, fun _ => rfl⟩
  · cases h
/-- self.NAME while self is being made -/
theorem e_conC {G' : Hp} {i j : Nat} {f : Str} {v : V} {uu : Value} {x : β} {ps : List Pd} (w : Wo G0 H0 ls G H cs) (hc : cs[j]? = some (l, cI C ns ps)) (hi : σ[i]? = some (some (.ref l))) (hC : Cls K C) (hk : Con K C f v uu) (hz : ns.contains f = false) (hv : ∀ H, S.r H v x) : E (tCon K (tVar i) f) σ G' H S (some x) := fun y hy H' e e' Q q => by
  cases hy
  obtain ⟨_, o, k2, dx, fs, rfl, k3⟩ := w.w.getAt hc
  exact ⟨.ref l, hi, l, C, dx, fs, v, uu, rfl, e' _ _ k2, hC, hk, look_no k3.1 hz, q _ H' G' (Up.refl e) (hv G')⟩
theorem el_listRg {m : Option Int} (h : E te σ G W rI m) : EL (tLstRg (tRg1 te)) σ G W rI (m >>= fun n => rngM 0 n) := fun z hz H e e' Q q => by
  obtain ⟨n, hn, hz⟩ := bindS hz
  refine h n hn H e e' _ fun v H1 G1 u r => ?_
  unfold rngM at hz
  split at hz
  · rename_i hb
    cases hz
    refine ⟨n, r, ⟨by omega, by omega, by omega, by omega, by omega⟩, fun p hp => q p _ G1 (fresh_back u.hh hp) (u.trans (up_new u.gh hp)) (wd_new u.gh hp ?_)⟩
    have : rgV 0 n = (rng 0 n).map V.int := by unfold rgV rng; rw [List.map_map]; rfl
    rw [this]
    exact ints_pr _
  · cases hz
end
end Sim

set_option maxHeartbeats 4000000
/-! own exceptions: an __init__ whose first statement is super().__init__(text) -/
namespace Sim
open PySem PySem.Spec PyProof.Rows L2 PySem.W PySem.Calls NdefX
/-- what the written part says of such an __init__ -/
structure SupC (P : Program) (K : Frag) (mg : Str → Option Value) (C f : Addr) (fd : FuncData) (F : NF) (ps : List Str) : Prop where
  lk : ∃ oc od osl kV doc pm an ct, fd = PySem.W.fnX F.name F.qual F.params F.body F.scope F.cl .none kV doc pm an (.ref F.c) ct ∧ K.lookup f = some ⟨oc, od, .func fd, osl⟩
  cd : PySem.W.codeIn K (.ref F.c) F.qual = true
  cl : ∃ cc oc od osl, F.cl = [(("__class__" : Str), cc)] ∧ K.lookup cc = some ⟨oc, od, .cell (some (.ref C)), osl⟩
  par : ∃ ar ps', (F.params.posonlyargs ++ F.params.args).head? = some ar ∧ ps = ar.arg :: ps' ∧ F.scope.names.lookup ar.arg = some .local
  code : ∃ ccl cdd vs ccs file tf, K.lookup F.c = some ⟨ccl, cdd, .fields vs, ccs⟩ ∧ vs[2]? = some (.str file tf) ∧ ((P.main.file : Str) == file) = true
  cls : ∃ cdD, clsIn K C = some cdD
  sub : mroIn K C (.ref C) = some true
  ks : F.scope.names.lookup ("super" : Str) = some .globalImplicit
  kc : F.scope.names.lookup ("__class__" : Str) = some .free
  mg : mg "super" = none
  top : (P.main.scope.names.lookup ("super" : Str)).isSome = false
  opq : nsIn K cStatics "thirdparty.any" = some none
  sup : ks_superIn K C C "__init__" = some (some (.builtin "ValueError.__init__"))
  ve : subIn K (.ref C) (.type "ValueError") = some true
  ex : OexC K C
section
variable {CX : CXT} {P : Program} {w : World} {K : PySem.W.Frag} {mg : Str → Option Value} {base : Heap} {N ps : List Str} {F : NF} {C f : Addr} {fd : FuncData} {k : Nat} {sp : Sp} {t : Str} {rest : List Stmt} {p0 p1 p2 p3 p4 pc : Pos} {j : Nat} {pl : Sem Bool}
theorem fn_exc (S : NScope N ps ["__class__"] F.scope) (Y : SupC P K mg C f fd F ps) (hbd : F.body = .Expr (.Call (.Attribute (.Call (.Name "super" p0) [] [] p1) "__init__" p2) [.Constant (.str t) j pc] [] p3) p4 :: rest)
    (hev : ∀ L : Addr, eval (.Call (.Attribute (.Call (.Name "super" p0) [] [] p1) "__init__" p2) [.Constant (.str t) j pc] [] p3) (envF F f L) = (do
      let ov ← attributeBase (.Call (.Name "super" p0) [] [] p1) "__init__" (envF F f L) (eval (.Call (.Name "super" p0) [] [] p1) (envF F f L))
      standAt p2.atName
      let (g, first) ← holding [ov] (getMethod ov "__init__" pl)
      callWith p3 g first (backTo p3 (starEach [.Constant (.str t) j pc] (envF F f L))) []))
    (hint : ∀ L : Addr, interactive (envF F f L) = false)
    (len : ∀ vs H Q E, sp vs H Q E → vs.length = ps.length)
    (hbody : ∀ (A : Around) (outer : List Env) (s : Shared) (H : Hp) (vs : List V) (Q : VK) (E : XK), Room k (A.deeper (envF F f s.heap.objs.size)) → sp vs H Q E →
      ∃ a vs', vs = .ref a :: vs' ∧ H a = some (exo a C none) ∧ ∃ t, PSs (ncx CX P w K mg base N F f A outer s H E) rest t ∧ t { nx := fun _ H' => Q .non H', rt := Q } (startF N vs [none]) H) :
    FnOk P w K mg base CX (k + 1) f fd ps sp := by
  obtain ⟨oc, od, osl, kV, doc, pm, an, ct, rfl, lk⟩ := Y.lk
  refine ⟨len, fun A outer s H args us vs Q E hr e0 hb r hsp => ?_⟩
  have hl := len _ _ _ _ hsp
  have KX : K.In s.heap := e0.mod.kin.keeps fun b o e => (e0.bs b o e).1
  have lim : s.heap.NoLimit := e0.mod.nolimit.keeps fun b o e => (e0.bs b o e).1
  refine codeAny_call_function hr.depth (KX _ _ lk) rfl S.co S.gen rfl (PySem.W.codeRec_of KX Y.cd) (hb _ _ _ _ ?_)
  refine wpAny_newFunctionEnv S.nocell (fun ⟨n, _⟩ hy => S.par n (List.of_mem_zip hy).1) (fun h₁ hns hsb => ⟨lim.fresh _ hsb, ?_⟩) S.kind
  show codeAny _ _ (.func F.body (envF F f s.heap.objs.size)) _ _
  have kp : ∀ b o, s.heap.get? b = some o → h₁.get? b = some o := fun b o e => hsb.extBut b o (Nat.ne_of_lt (Heap.lt_size e)) (Heap.get?_push_of_some _ e)
  obtain ⟨a, vs', rfl, ea, tt, ht, hq⟩ := hbody A outer s H vs Q E (hr.deeper _) hsp
  obtain ⟨cc, kc0, kc1, kc2, hcl, hcc⟩ := Y.cl
  have ccb : base.get? cc = some ⟨kc0, kc1, .cell (some (.ref C)), kc2⟩ := e0.mod.kin _ _ hcc
  have CA : CellsAt F.cl ["__class__"] [none] s.heap H := by
    rw [hcl]
    have look : ∀ y c, ([(("__class__" : Str), cc)] : List (Str × Addr)).lookup y = some c → y = "__class__" ∧ c = cc := fun y c e => by
      rw [List.lookup_cons] at e
      cases h : (y == ("__class__" : Str)) with
      | true => rw [h] at e; cases e; exact ⟨eq_of_beq h, rfl⟩
      | false => rw [h] at e; cases e
    refine ⟨rfl, fun y c e => ?_, fun x y c e1 e2 => ?_, fun i y e => ?_⟩
    · obtain ⟨_, rfl⟩ := look y c e
      exact ⟨(e0.bs _ _ ccb).2, _, ⟨_, (e0.bs _ _ ccb).1, rfl⟩⟩
    · rw [(look x c e1).1, (look y c e2).1]
    · cases i with
      | zero =>
        cases e
        exact ⟨cc, by rfl, fun v e => by cases e⟩
      | succ i => cases e
  have I : Inv (ncx CX P w K mg base N F f A outer s H E) [] (startF N (.ref a :: vs') [none]) H { s with heap := h₁, toks := s.toks + (ps.zip us).length } := inv_startN S hr.hd e0 hl r CA hns kp
  refine ks_codeAny_funcAt ?_
  have fin : ∀ {σ' : L2.St} {H' : Hp} {v : V} {u : Value} {s' : Shared}, Inv (ncx CX P w K mg base N F f A outer s H E) [] σ' H' s' → RelV v u → Q v H' → CE outer P w H s Q u s' :=
    fun {σ' H' v u s'} J rv q => ⟨v, H', J.os, J.bare, J.base, J.hok, rv, q⟩
  have tail : ∀ s1 : Shared, Inv (ncx CX P w K mg base N F f A outer s H E) [] (startF N (.ref a :: vs') [none]) H s1 →
      _root_.PySem.wpAt (model P w) (A.deeper (envF F f s.heap.objs.size)) (.func F.body (envF F f s.heap.objs.size)) (execs rest (envF F f s.heap.objs.size)) (fun f s' => CR CX outer P w H s Q E (.ok (.ret (match f with | .ret v => v | _ => .none))) s')
        (fun e s' => wpAny (model P w) (A.deeper (envF F f s.heap.objs.size)) (leaving (envF F f s.heap.objs.size) e) (fun _ s'' => CR CX outer P w H s Q E (.error e) s'') (fun e' s'' => CR CX outer P w H s Q E (.error e') s'') s') s1 := by
    intro s1 I1
    refine wpAt_of_wpAny (wpAny_mono (ht.run [] _ (startF N (.ref a :: vs') [none]) H _ I1 hq) (fun fl s' hs => ?_) fun e s' hs => hs)
    cases fl with
    | ret u =>
      obtain ⟨v, σ', H', J, rv, q⟩ := hs
      exact fin J rv q
    | next =>
      obtain ⟨σ', H', J, q⟩ := hs
      exact fin (v := V.non) (u := Value.none) J rfl q
    | brk =>
      obtain ⟨_, _, _, q⟩ := hs
      exact False.elim q
    | cont =>
      obtain ⟨_, _, _, q⟩ := hs
      exact False.elim q
  rw [hbd]
  rw [← hbd]
  refine (congrArg (fun z => _root_.PySem.wpAt (model P w) (A.deeper (envF F f s.heap.objs.size)) (.func F.body (envF F f s.heap.objs.size)) (execs z (envF F f s.heap.objs.size)) _ _ _) hbd).mpr ?_
  refine ks_wpAt_execs_cons (ks_wpAt_Expr_any (ks_wpAt_MethodCall ?_ (hev _)) (hint _))
  obtain ⟨ar, ps', hp, hps, hka⟩ := Y.par
  obtain ⟨ccl, cdd, cvs, ccs, file, tf, hcode, hvs, hfile⟩ := Y.code
  obtain ⟨cdD, hD⟩ := Y.cls
  obtain ⟨oD, hD1, hD2⟩ : ∃ oD, h₁.get? C = some oD ∧ oD.data = .cls cdD := by
    unfold clsIn at hD
    split at hD
    · rename_i c d cd' sl ho
      cases hD
      exact ⟨_, I.kIn _ _ ho, rfl⟩
    · cases hD
  obtain ⟨t1, ho⟩ := exo_at I.hok ea
  obtain ⟨mb, hb1, hb2⟩ := I.mod.blt
  have hboot : bootBuiltins "super" = some (.type "super") := by kernel_rfl
  refine ks_wpAt_super_base (env := envF F f s.heap.objs.size) (fd := PySem.W.fnX F.name F.qual F.params F.body F.scope F.cl .none kV doc pm an (.ref F.c) ct) Y.ks Y.kc (by decide) rfl (I.kIn _ _ lk) rfl hp rfl (I.kIn _ _ hcode) rfl hvs hfile Y.top ?_
  refine ks_loadName_global S.kind Y.ks (loadGlobal_builtin (env := envF F f s.heap.objs.size) (I.mod.glob.keeps I.bk) Y.mg (hb1.keeps I.bk) ((hb2 _ (by decide)).trans hboot) ⟨rfl, ?_⟩)
  refine wpAny_loadName_free S.kind Y.kc (show List.lookup ("__class__" : Str) F.cl = some cc by rw [hcl]; rfl) ⟨_, I.kIn _ _ hcc, rfl⟩ ?_
  have hself : (ps.zip us).reverse.lookup ar.arg = some (.ref a) := by
    have ndP : ps.Nodup := by
      have q := S.nd.sublist (List.take_sublist (ps.length + [("__class__" : Str)].length) N)
      rw [S.pre] at q
      exact (List.nodup_append.mp q).1
    cases r with
    | cons rx rr =>
      cases rx
      exact zip_look (i := 0) ndP (by rw [hps]; rfl) rfl
  refine wpAny_loadName_local S.kind hka hns hself ?_
  refine ks_wpAny_isType_cls hD1 hD2 ⟨rfl, ?_⟩
  refine ks_wpAny_call_super hD1 hD2 ho rfl (fun c e => by cases e) (looks_mroIn I.kIn Y.sub) (fun h2 e2 k2 => ?_)
  have I2 := I.kept (t' := s.toks + (ps.zip us).length) (h' := h2) k2
  have ho2 := k2 _ _ ho
  have A2 : InstAt h2 a { cls := .ref C, dict := none, data := .fields #[.ref t1, .none, .none, .none, .bool false, .none] } C none := ⟨ho2, rfl, rfl, trivial⟩
  have hI : Looks (model P w) h2 (isInstance (.ref a) (.type "ValueError")) true := A2.type.andThen (looks_subIn I2.kIn Y.ve)
  have hsu := Y.sup
  unfold ks_superIn at hsu
  rw [hD] at hsu
  refine kxs_getMethod kxs_ValueError e2 (looks_opaque I2.kIn Y.opq) (l₀ := cdD.mro) (fun A Q E s k q => wpAny_bind ((looks_clsIn I2.kIn hD) A _ E s k (wpAny_pure q))) rfl I2.kIn hsu hI (ks_ne I2.kIn A2 hD) (by decide) ?_
  have I3 := I2.kept (t' := s.toks + (ps.zip us).length + 1) (h' := h2.push (kxs_mw "ValueError.__init__" a)) (fun b o e => Heap.get?_push_of_some _ e)
  have hu : (h2.push (kxs_mw "ValueError.__init__" a)).get? h2.objs.size = some (kxs_mw "ValueError.__init__" a) := Heap.get?_push_at rfl rfl
  refine kxs_callWith (i := "ValueError.__init__") (x := a) rfl ?_
  refine evalArgs_plain (spliced_cons ?_)
  show wpAny _ _ (eval (.Constant (.str t) j pc) (envF F f s.heap.objs.size)) _ _ _
  refine Calls.Constant_str (spliced_nil ⟨hu, ?_⟩)
  obtain ⟨nm, q, NN, bs, bm, sn, sub, ab, col, dd, k0, k1, k2', k3, k5, hC, hbm⟩ := Y.ex.cls
  have hC3 := I3.kIn _ _ hC
  have ho3 : (h2.push (kxs_mw "ValueError.__init__" a)).get? a = some (PySem.W.excObj C t1 none .none) := Heap.get?_push_of_some _ ho2
  refine wpAny_call (codeAny_of_tree ?_)
  show wpAny _ (A.deeper (envF F f s.heap.objs.size)).in1 (callAny (.ref h2.objs.size) ⟨_, []⟩) _ _ _
  simp only [callAny]
  refine wpAny_bind (wpAny_load hu ?_)
  simp only [kxs_mw, show (Value.type "method-wrapper" == Value.type "method" || Value.type "method-wrapper" == Value.type "builtin_function_or_method" || Value.type "method-wrapper" == Value.type "method-wrapper") = true by decide, if_true]
  refine KFB.if_so (by decide) ?_
  refine wpAny_bind (check_bound_init PySem.F.excBase_ValueError.toExcCallFacts hC3 ho3 rfl ?_)
  refine wpAny_bind (wpAny_pure (wpAny_pure ?_))
  refine ⟨plainId_quiet PySem.F.excBase_ValueError.init.plain _, codeAny_builtin PySem.F.excBase_ValueError.initEntry ?_⟩
  refine exc_init_tree (cls := .ref C) (t0 := t1) (dv := none) (c2 := .none) (c3 := .none) (b4 := .bool false) ho3 (by rw [sizeLine_eq]; simp) (fun h4 kk e4 t4 => ?_)
  have J := I3.write (h' := h4) (t' := s.toks + (ps.zip us).length + 1 + 1) (x := a) (e := a) (o := exo a C none) (by rw [ea]; exact True.intro) (.inl rfl) kk ⟨_, e4⟩ (exo_ok e4)
  have eu : upd H a (exo a C none) = H := by
    funext b
    by_cases hb : b = a
    · rw [hb, upd_same, ea]
    · rw [upd_ne hb]
  rw [eu] at J
  exact tail _ J
end
end Sim

/-! own exceptions: what the top's end says of them -/
namespace Sim
open PySem PySem.Spec PyProof.Rows L2 PySem.W PySem.Calls NdefX
def oexB (K : Frag) (C : Addr) : Bool := (match K.lookup C with
  | some ⟨.type "type", _, .cls cd, sl⟩ => (match cd.mro, sl.toList with
    | .ref C' :: bm, [_, _, _, _, some (.builtin n), _] => C' == C && n == "ValueError.__new__" && !cd.hasDel && PySem.HandSPX.refsVE bm && cd.hasDict
    | _, _ => false)
  | _ => false) && (decide (findIn K (.ref C) "__setattr__" = some (some (.builtin "object.__setattr__"))) && (decide (subIn K (.ref C) (.type "BaseException") = some true) && (decide (typeIn K (.ref C) = some (.type "type")) && keepIn K (.ref C))))
theorem oexB_ok {K : Frag} {C : Addr} (h : oexB K C = true) : OexC K C := by
  unfold oexB at h
  obtain ⟨q, h⟩ := He.ba h
  obtain ⟨h1, h⟩ := He.ba h
  obtain ⟨h2, h⟩ := He.ba h
  obtain ⟨h3, h4⟩ := He.ba h
  refine ⟨?_, of_decide_eq_true h1, of_decide_eq_true h2, of_decide_eq_true h3, h4⟩
  split at q
  · rename_i dd cd sl ho
    split at q
    · rename_i C' bm k0 k1 k2 k3 n k5 hm hs
      simp only [Bool.and_eq_true, beq_iff_eq, Bool.not_eq_true'] at q
      obtain ⟨⟨⟨⟨rfl, rfl⟩, hdel⟩, ht⟩, hdict⟩ := q
      obtain ⟨nm, bs, mro, ns, qn, hd, sn, sub, ab, col, del⟩ := cd
      dsimp only at hm hdel hdict
      subst hm hdel hdict
      have hsl : sl = #[k0, k1, k2, k3, some (.builtin "ValueError.__new__"), k5] := by
        rw [← Array.toArray_toList (xs := sl), hs]
      subst hsl
      exact ⟨nm, qn, ns, bs, bm, sn, sub, ab, col, dd, k0, k1, k2, k3, k5, ho, ht⟩
    · cases q
  · cases q
/-- an own __init__ of an exception class: what is looked at -/
abbrev FnY : Type := Option (Str × Arguments × FuncBody × Scope × Addr × List Str × Addr)
structure XcD where
  cls : Str
  qual : Str
  params : Arguments
  body : List Stmt
  scope : Scope
def xcAd (K : Frag) (x : Str) : Addr := He.ma K (He.ga K x) "__init__"
def fnY (K : Frag) (x : Str) : FnY := match K.lookup (xcAd K x) with
  | some ⟨_, _, .func fd, _⟩ => some (fd.qualname, fd.params, fd.body, fd.scope, fd.globals, fd.closure.map (·.1), fd.builtins)
  | _ => none
def XcD.val (d : XcD) : FnY := some (d.qual, d.params, .stmts d.body, d.scope, mainGlobals, ["__class__"], builtinsNs)
def XcD.fdB (K : Frag) (file : Str) (d : XcD) : Bool := match K.lookup (xcAd K d.cls) with
  | some ⟨_, _, .func fd, _⟩ => (match fd.closure with
    | [(_, cc)] => (match K.lookup cc with
      | some ⟨_, _, .cell (some (.ref D)), _⟩ => D == He.ga K d.cls
      | _ => false)
    | _ => false) && (match fd.code with
    | .ref cda => codeIn K (.ref cda) d.qual && (match K.lookup cda with
      | some ⟨_, _, .fields vs, _⟩ => (match (vs[2]? : Option Value) with
        | some (.str fl _) => fl == file
        | _ => false)
      | _ => false)
    | _ => false) && (decide (fd.name = ("__init__" : Str)) && (match fd.defaults with
    | .none => true
    | _ => false))
  | _ => false
def XcD.ok (K : Frag) (file : Str) (d : XcD) : Bool := d.fdB K file && (oexB K (He.ga K d.cls) && ((clsIn K (He.ga K d.cls)).isSome && (decide (mroIn K (He.ga K d.cls) (.ref (He.ga K d.cls)) = some true) &&
  (decide (nsIn K cStatics "thirdparty.any" = some none) && (decide (ks_superIn K (He.ga K d.cls) (He.ga K d.cls) "__init__" = some (some (.builtin "ValueError.__init__"))) && (decide (subIn K (.ref (He.ga K d.cls)) (.type "ValueError") = some true) &&
  (decide (findIn K (.ref (He.ga K d.cls)) "__init__" = some (some (.ref (xcAd K d.cls)))) && decide (typeIn K (.ref (xcAd K d.cls)) = some (.type "function")))))))))
/-- what is known of the class -/
structure XcK (P : Program) (K : Frag) (mg : Str → Option Value) (d : XcD) : Prop where
  ex : ∃ fd cc c, SupC P K mg (He.ga K d.cls) (xcAd K d.cls) fd ⟨"__init__", d.qual, d.params, d.body, d.scope, [("__class__", cc)], c⟩ ((d.params.posonlyargs ++ d.params.args).map (·.arg))
  oex : OexC K (He.ga K d.cls)
  ini : findIn K (.ref (He.ga K d.cls)) "__init__" = some (some (.ref (xcAd K d.cls)))
  ty : typeIn K (.ref (xcAd K d.cls)) = some (.type "function")
theorem XcD.known {P : Program} {K : Frag} {mg : Str → Option Value} {d : XcD} (e : fnY K d.cls = d.val) (c : d.ok K P.main.file = true) (hmg : mg "super" = none) (htop : (P.main.scope.names.lookup ("super" : Str)).isSome = false)
    (hks : d.scope.names.lookup ("super" : Str) = some .globalImplicit) (hkc : d.scope.names.lookup ("__class__" : Str) = some .free) {ar : Arg} {ars : List Arg} (hpa : d.params.posonlyargs ++ d.params.args = ar :: ars) (hka : d.scope.names.lookup ar.arg = some .local) : XcK P K mg d := by
  unfold XcD.ok at c
  obtain ⟨c0, c⟩ := He.ba c
  obtain ⟨c1, c⟩ := He.ba c
  obtain ⟨c2, c⟩ := He.ba c
  obtain ⟨c3, c⟩ := He.ba c
  obtain ⟨c4, c⟩ := He.ba c
  obtain ⟨c5, c⟩ := He.ba c
  obtain ⟨c6, c⟩ := He.ba c
  obtain ⟨c7, c8⟩ := He.ba c
  refine ⟨?_, oexB_ok c1, of_decide_eq_true c7, of_decide_eq_true c8⟩
  unfold XcD.fdB at c0
  unfold fnY at e
  cases q : K.lookup (xcAd K d.cls) with
  | none => rw [q] at c0; cases c0
  | some o =>
    obtain ⟨oc, od, dt, osl⟩ := o
    rw [q] at c0 e
    cases dt with
    | func fd =>
      obtain ⟨n1, n2, n3, n4, n5, n6, n7, n8, n9, n10, n11, n12, n13, n14, n15⟩ := fd
      have e2 : (some (n2, n3, n4, n5, n6, n7.map (·.1), n15) : FnY) = (some (d.qual, d.params, .stmts d.body, d.scope, mainGlobals, ["__class__"], builtinsNs) : FnY) := e
      simp only [Option.some.injEq, Prod.mk.injEq] at e2
      obtain ⟨h2, h3, h4, h5, h6, h7, h8⟩ := e2
      subst h2 h3 h4 h5 h6 h8
      dsimp only at c0
      obtain ⟨kab, kc⟩ := He.ba c0
      obtain ⟨kA, kB⟩ := He.ba kab
      obtain ⟨kc, kd⟩ := He.ba kc
      have kc := of_decide_eq_true kc
      subst kc
      clear kab c0
      have kd2 : n8 = Value.none := by
        cases n8 with
        | none => rfl
        | _ => cases kd
      subst kd2
      cases n7 with
      | nil => cases h7
      | cons p r =>
        cases r with
        | cons _ _ => simp at h7
        | nil =>
          obtain ⟨nm, cc⟩ := p
          have hn : nm = ("__class__" : Str) := by
            simp only [List.map_cons, List.map_nil, List.cons.injEq, and_true] at h7
            exact h7
          subst hn
          dsimp only at kA
          cases n13 with
          | ref cda =>
            dsimp only at kB
            obtain ⟨k4, k5⟩ := He.ba kB
            cases qc : K.lookup cc with
            | none => rw [qc] at kA; cases kA
            | some oc2 =>
              obtain ⟨a1, a2, a3, a4⟩ := oc2
              rw [qc] at kA
              cases a3 with
              | cell v =>
                cases v with
                | none => cases kA
                | some v =>
                  cases v with
                  | ref D =>
                    have hD : D = He.ga K d.cls := eq_of_beq kA
                    subst hD
                    cases qd : K.lookup cda with
                    | none => rw [qd] at k5; cases k5
                    | some od2 =>
                      obtain ⟨b1, b2, b3, b4⟩ := od2
                      rw [qd] at k5
                      cases b3 with
                      | fields vs =>
                        dsimp only at k5
                        cases qv : vs[2]? with
                        | none => rw [qv] at k5; cases k5
                        | some v2 =>
                          rw [qv] at k5
                          cases v2 with
                          | str fl tf =>
                            have hfl : fl = P.main.file := eq_of_beq k5
                            subst hfl
                            obtain ⟨cdD, hcd⟩ := Option.isSome_iff_exists.mp c2
                            exact ⟨_, cc, cda, ⟨oc, od, osl, n9, n10, n11, n12, n14, rfl, q⟩, k4, ⟨cc, a1, a2, a4, rfl, qc⟩, ⟨ar, ars.map (·.arg), by rw [hpa]; rfl, by rw [hpa]; rfl, hka⟩, ⟨b1, b2, vs, b4, P.main.file, tf, qd, qv, by simp⟩, ⟨cdD, hcd⟩,
                              of_decide_eq_true c3, hks, hkc, hmg, htop, of_decide_eq_true c4, of_decide_eq_true c5, of_decide_eq_true c6, oexB_ok c1⟩
                          | _ => cases k5
                      | _ => cases k5
                  | _ => cases kA
              | _ => cases kA
          | _ => cases kB
    | _ => cases c0
end Sim

/-! own exceptions raised: their mirrors and promises -/
namespace Sim
open PySem PySem.Spec PyProof.Rows L2 Evl NdefX
/-- an exception's field: data -/
inductive Xv where
  | int (i : Int)
  | str (s : Str)
deriving DecidableEq
def rX : Rep Xv := ⟨fun _ v x => match x with
  | .int i => v = .int i
  | .str s => v = .str s, fun {_ _ v x} _ h => by cases x <;> exact h⟩
structure Xn where
  cls : Str
  fs : List (Str × Xv)
/-- its dict at d -/
def Xat (G : Hp) (e : Xn) (d : Addr) : Prop := ∃ fs, G d = some (.xd fs) ∧ ∀ f x, e.fs.lookup f = some x → ∃ v, fs.lookup f = some v ∧ rX.r G v x
/-- what the __init__ of an own exception keeps: names the fields, in order -/
def spX (C : Addr) (names : List Str) : Sp := fun vs H Q _ => ∃ a ws, vs = .ref a :: ws ∧ ws.length = names.length ∧ H a = some (exo a C none) ∧
  ∀ dx, H dx = none → dx ≠ a → Q .non (upd (upd H dx (exd dx (names.zip ws).reverse)) a (exo a C (some dx)))
/-- may raise -/
def PX {ι α : Type} (K : PySem.W.Frag) (A : AR ι) (R : Rep α) (f : ι → Option (Xn ⊕ α)) : Sp := fun vs H Q E => ∃ G i r, Ex G H ∧ A.r G vs i ∧ f i = some r ∧
  (∀ e, r = .inl e → ∀ d H2 G2, Up G H G2 H2 → Xat G2 e d → E (.ref (He.ga K e.cls)) (some d) H2) ∧ (∀ x, r = .inr x → ∀ v H2 G2, Up G H G2 H2 → R.r G2 v x → Q v H2)
section
variable {K : PySem.W.Frag} {σ : L2.St} {G H G0 H0 : Hp} {ls : List Addr} {cs : Cs} {ta : TA} {ι : Type} {A : AR ι}
/-- the reading of raise C(args) -/
def tRs (t : L2.St → Hp → XK → Prop) (W : WX) : TS := fun _ σ H => t σ H fun cls d H' => W cls d σ H'
theorem x_raise {C : Addr} {names : List Str} {m : Option ι} {i : ι} {W : WX} {D : Ends} {tz : TS} (w : Wo G0 H0 ls G H cs) (ha : EA ta σ G H A m) (hm : m = some i)
    (hl : ∀ G vs, A.r G vs i → vs.length = names.length ∧ vs.length ≤ 1000)
    (k : ∀ vs H2 G2 d, Wo G0 H0 ls G2 H2 cs → A.r G2 vs i → Ex G G2 → G2 d = some (.xd (names.zip vs).reverse) → W (.ref C) (some d) σ H2) :
    tSeq (fun _ σ H => tMkO C (spX C names) [] ta σ H fun cls d H' => W cls d σ H') tz D σ H := by
  refine ha i hm H w.ex (Ex.refl _) _ fun vs H1 G1 u r => ?_
  obtain ⟨h1, h2⟩ := hl _ _ r
  refine ⟨h2, fun a na => ⟨a, vs, by rw [List.append_nil], h1, upd_same .., fun dx hdx hne => ⟨rfl, dx, (names.zip vs).reverse, upd_same .., ?_, ?_, ?_⟩⟩⟩
  · rw [upd_ne hne, upd_same]
  · rw [upd_ne hne] at hdx; exact hdx
  · have hdx' : H1 dx = none := by rw [upd_ne hne] at hdx; exact hdx
    have e : upd (del (upd (upd (upd H1 a (exo a C none)) dx (exd dx (names.zip vs).reverse)) a (exo a C (some dx))) a) dx (.xd (names.zip vs).reverse) = upd H1 dx (.xd (names.zip vs).reverse) := by
      funext b
      by_cases hb : b = dx
      · subst hb; rw [upd_same, upd_same]
      · rw [upd_ne hb, upd_ne hb]
        by_cases hba : b = a
        · subst hba; rw [del_same, na]
        · rw [del_ne hba, upd_ne hba, upd_ne hb, upd_ne hba]
    rw [e]
    have u2 := Up.lay (o := HO.xd (names.zip vs).reverse) u.gh hdx'
    have u3 := u.trans u2
    exact k vs _ _ dx ((w.up u).up u2) (A.mono u2.gg r) u3.gg (upd_same ..)
end
end Sim

/-! the __init__ of an own exception, walked -/
namespace Sim
open PySem PySem.Spec PyProof.Rows L2 Evl NdefX
/-- self.f = the i-th name, for each of these -/
def tFlds (K : PySem.W.Frag) : List (Str × Nat) → TS
  | [] => tNext
  | q :: r => tSeq (tOst K q.1 (tVar 0) (tVar q.2)) (tFlds K r)
section
variable {K : PySem.W.Frag} {σ : L2.St} {H : Hp} {a C dx : Addr} {D : Ends}
theorem flds_go (T : OexC K C) (ha : σ[0]? = some (some (.ref a))) (hne : dx ≠ a) : ∀ (r : List (Str × Nat × V)) (fs : List (Str × V)) (H : Hp), (∀ q ∈ r, PySem.W.findIn K (.ref C) q.1 = some none ∧ σ[q.2.1]? = some (some q.2.2)) →
    fs.length + r.length ≤ 900 → H a = some (exo a C (some dx)) → H dx = some (exd dx fs) → D.nx σ (upd H dx (exd dx ((r.map fun q => (q.1, q.2.2)).reverse ++ fs))) → tFlds K (r.map fun q => (q.1, q.2.1)) D σ H
  | [], fs, H, _, _, hA, hD, k => by
    have e : upd H dx (exd dx fs) = H := by
      funext b
      by_cases hb : b = dx
      · rw [hb, upd_same, hD]
      · rw [upd_ne hb]
    have k : D.nx σ (upd H dx (exd dx fs)) := k
    rw [e] at k
    exact k
  | (f, i, y) :: r, fs, H, hq, hl, hA, hD, k => by
    obtain ⟨h1, h2⟩ := hq _ (List.mem_cons_self ..)
    simp only [List.length_cons] at hl
    refine ⟨y, h2, .ref a, ha, a, C, rfl, T, h1, Or.inr ⟨dx, fs, hA, hD, by omega, ?_⟩⟩
    refine flds_go T ha hne r ((f, y) :: fs) _ (fun q h => hq q (List.mem_cons_of_mem _ h)) (by simp only [List.length_cons]; omega) ?_ (upd_same ..) ?_
    · rw [upd_ne (Ne.symm hne)]; exact hA
    · have e : upd (upd H dx (exd dx ((f, y) :: fs))) dx (exd dx ((r.map fun q => (q.1, q.2.2)).reverse ++ (f, y) :: fs)) = upd H dx (exd dx ((((f, i, y) :: r).map fun q => (q.1, q.2.2)).reverse ++ fs)) := by
        funext b
        by_cases hb : b = dx
        · rw [hb, upd_same, upd_same]; simp
        · rw [upd_ne hb, upd_ne hb, upd_ne hb]
      rw [e]
      exact k
theorem flds_all (T : OexC K C) (ha : σ[0]? = some (some (.ref a))) {q0 : Str × Nat × V} {r : List (Str × Nat × V)} (hq : ∀ q ∈ q0 :: r, PySem.W.findIn K (.ref C) q.1 = some none ∧ σ[q.2.1]? = some (some q.2.2)) (hl : r.length ≤ 800) (hA : H a = some (exo a C none))
    (k : ∀ dx, H dx = none → dx ≠ a → D.nx σ (upd (upd H dx (exd dx ((q0 :: r).map fun q => (q.1, q.2.2)).reverse)) a (exo a C (some dx)))) : tFlds K ((q0 :: r).map fun q => (q.1, q.2.1)) D σ H := by
  obtain ⟨f, i, y⟩ := q0
  obtain ⟨h1, h2⟩ := hq _ (List.mem_cons_self ..)
  refine ⟨y, h2, .ref a, ha, a, C, rfl, T, h1, Or.inl ⟨hA, fun dx hdx hne => ?_⟩⟩
  refine flds_go T ha hne r [(f, y)] _ (fun q h => hq q (List.mem_cons_of_mem _ h)) (by simp; omega) (upd_same ..) (by rw [upd_ne hne, upd_same]) ?_
  have e : upd (upd (upd H dx (exd dx [(f, y)])) a (exo a C (some dx))) dx (exd dx ((r.map fun q => (q.1, q.2.2)).reverse ++ [(f, y)])) = upd (upd H dx (exd dx (((f, i, y) :: r).map fun q => (q.1, q.2.2)).reverse)) a (exo a C (some dx)) := by
    funext b
    by_cases hb : b = dx
    · rw [hb, upd_same, upd_ne hne, upd_same]; simp
    · rw [upd_ne hb]
      by_cases hba : b = a
      · rw [hba, upd_same, upd_same]
      · rw [upd_ne hba, upd_ne hba, upd_ne hb, upd_ne hb]
  rw [e]
  exact k dx hdx hne
end
section
variable {CX : CXT} {P : Program} {w : World} {K : PySem.W.Frag} {mg : Str → Option Value} {base : Heap} {N ps : List Str} {F : NF} {C f : Addr} {fd : FuncData} {k : Nat} {t : Str} {rest : List Stmt} {p0 p1 p2 p3 p4 pc : Pos} {j : Nat} {pl : Sem Bool} {names : List Str} {fi : List (Str × Nat)}
theorem xinit (S : NScope N ps ["__class__"] F.scope) (Y : SupC P K mg C f fd F ps) (hbd : F.body = .Expr (.Call (.Attribute (.Call (.Name "super" p0) [] [] p1) "__init__" p2) [.Constant (.str t) j pc] [] p3) p4 :: rest)
    (hev : ∀ L : Addr, eval (.Call (.Attribute (.Call (.Name "super" p0) [] [] p1) "__init__" p2) [.Constant (.str t) j pc] [] p3) (envF F f L) = (do
      let ov ← attributeBase (.Call (.Name "super" p0) [] [] p1) "__init__" (envF F f L) (eval (.Call (.Name "super" p0) [] [] p1) (envF F f L))
      standAt p2.atName
      let (g, first) ← holding [ov] (getMethod ov "__init__" pl)
      callWith p3 g first (backTo p3 (starEach [.Constant (.str t) j pc] (envF F f L))) []))
    (hint : ∀ L : Addr, interactive (envF F f L) = false) (hno : ∀ f ∈ names, PySem.W.findIn K (.ref C) f = some none) (hps : ps.length = names.length + 1)
    (hr : ∀ (a : Addr) (ws : List V), ws.length = names.length → ∃ (q0 : Str × Nat × V) (r : List (Str × Nat × V)), r.length ≤ 800 ∧ ((q0 :: r).map fun q => (q.1, q.2.1)) = fi ∧ ((q0 :: r).map fun q => (q.1, q.2.2)) = names.zip ws ∧ ∀ q ∈ q0 :: r, q.1 ∈ names ∧ (startF N (.ref a :: ws) [none])[q.2.1]? = some (some q.2.2))
    (hrest : ∀ (A : Around) (outer : List Env) (s : Shared) (H : Hp) (E : XK), PSs (ncx CX P w K mg base N F f A outer s H E) rest (tFlds K fi)) :
    FnOk P w K mg base CX (k + 1) f fd ps (spX C names) := by
  refine fn_exc S Y hbd hev hint (fun vs H Q E h => ?_) (fun A outer s H vs Q E _ h => ?_)
  · obtain ⟨a, ws, rfl, h, _⟩ := h
    rw [List.length_cons, h, hps]
  · obtain ⟨a, ws, rfl, hl, hA, kk⟩ := h
    refine ⟨a, ws, rfl, hA, _, hrest A outer s H E, ?_⟩
    obtain ⟨q0, r, h1, h2, h3, h4⟩ := hr a ws hl
    rw [← h2]
    refine flds_all Y.ex (a := a) (by rfl) (fun q hq => ⟨hno _ (h4 q hq).1, (h4 q hq).2⟩) h1 hA (fun dx hdx hne => ?_)
    rw [h3]
    exact kk dx hdx hne
end
end Sim

/-! calls that may raise, at the caller's slots; try -/
namespace L2
open PySem PySem.Spec PyProof.Rows
section
variable {X : Cx} {CX : CXT} {k : Nat} {f C : Addr} {fd : FuncData} {ps : List Str} {sp : Sp} {E : St → XK} {x m : Str} {p pos apos : Pos} {e o : Expr} {es : List Expr} {ta : TE} {t : TA}
/-- o.m(e, ..), what is raised wished for at the slots -/
def tMethT (C : Addr) (m : Str) (sp : Sp) (E : St → XK) (to : TE) (t : TA) : TE := fun σ H Q => to σ H fun x H1 => ∃ a dx fs, x = .ref a ∧ H1 a = some (.ins C dx fs) ∧ fs.lookup m = none ∧ t σ H1 fun vs H2 => sp (.ref a :: vs) H2 Q (E σ)
theorem pe_methT {pl : Sem Bool} (he : PE X o ta) (c : Cls X.K C) (hm : Meth X.K C m f) (F : FnOk X.prog X.w X.K X.mg X.base CX k f fd ps sp) (hr : Room k X.A) (hb : Binds X.K fd ps []) (hx : ∀ σ, PassesAt CX X σ (E σ)) (ha : PA X (e :: es) t)
    (hst : starEach (e :: es) X.env = (false, eval e X.env) :: starEach es X.env := by rfl) (hpl : (backTo pos (starEach es X.env)).any (·.1) = false := by rfl)
    (ht : eval (.Call (.Attribute o m apos) (e :: es) [] pos) X.env = (do
      let ov ← eval o X.env
      standAt apos.atName
      let (f, first) ← holding [ov] (getMethod ov m pl)
      callWith pos f first (backTo pos (starEach (e :: es) X.env)) (backToKw pos (keywordEach [] X.env))) := by rfl) :
    PE X (.Call (.Attribute o m apos) (e :: es) [] pos) (tMethT C m sp E ta t) := by
  refine ⟨fun pins s σ H Q I h => ?_⟩
  refine PySem.W.methodCall_KW (pl := pl) (thn (he.run pins s σ H _ I h) fun u s1 ⟨x, H1, I1, rx, a, dx, fs, ex, ea, l, q⟩ => ?_) ht
  subst ex
  obtain rfl : u = Value.ref a := rx
  refine getmeth_ok I1 ea c hm l ?_
  refine PySem.W.callWith_K (first := [.ref a]) (h₀ := X.base) I.ok.mod.kin hm.kp (thn (ha.run pos pins s1 σ H1 _ I1 q) fun us s2 ⟨vs, H2, I2, r, q2⟩ => ⟨I2.kIn, ?_⟩) hst hpl
  exact run_fnS (us := .ref a :: us) (vs := .ref a :: vs) F hr hb (hx σ) I2 (.cons rfl r) q2
end
/-- several clauses, each with a name -/
def wManyA (K : PySem.W.Frag) (Wout : WX) (D : Ends) : List (Value × Option Nat × (Addr → Value → Option Addr → TS)) → WX
  | [] => Wout
  | (c, some i, ts) :: r => fun cls d σ H => ∃ b, PySem.W.exmOne K cls c = some b ∧ (b = true → ∀ a, H a = none → ts a cls d { nx := fun σ' H' => D.nx (σ'.set i none) H', rt := D.rt, bk := fun σ' H' => D.bk (σ'.set i none) H', ct := fun σ' H' => D.ct (σ'.set i none) H' } (σ.set i (some (.ref a))) H) ∧
      (b = false → wManyA K Wout D r cls d σ H)
  | (c, none, ts) :: r => fun cls d σ H => ∃ b, PySem.W.exmOne K cls c = some b ∧ (b = true → ∀ a, H a = none → ts a cls d D σ H) ∧ (b = false → wManyA K Wout D r cls d σ H)
end L2
namespace Sim
open PySem PySem.Spec PyProof.Rows L2 Evl
section
variable {K : PySem.W.Frag} {σ : L2.St} {G H W G0 H0 : Hp} {ls : List Addr} {cs : Cs} {ta : TA} {to te : TE} {ι α β γ : Type} {A : AR ι} {R : Rep α} {S : Rep β} {T : Rep γ} {t u : TS} {D : Ends}
/-- a reading that may raise -/
def EX (K : PySem.W.Frag) (te : TE) (σ : L2.St) (G W : Hp) (R : Rep α) (m : Option (Xn ⊕ α)) (Wx : XK) : Prop :=
  ∀ r, m = some r → ∀ H, Ex G H → Ex W H → ∀ Q : VK, (∀ e, r = .inl e → ∀ d H2 G2, Up G H G2 H2 → Xat G2 e d → Wx (.ref (He.ga K e.cls)) (some d) H2) → (∀ x, r = .inr x → ∀ v H2 G2, Up G H G2 H2 → R.r G2 v x → Q v H2) → te σ H Q
theorem Xat.mono {G G2 : Hp} {e : Xn} {d : Addr} (x : Ex G G2) (h : Xat G e d) : Xat G2 e d := by
  obtain ⟨fs, h1, h2⟩ := h
  exact ⟨fs, x d _ h1, fun f y hy => by obtain ⟨v, h3, h4⟩ := h2 f y hy; exact ⟨v, h3, rX.mono x h4⟩⟩
theorem ex_call {f : ι → Option (Xn ⊕ γ)} {ta : TA} {m : Option ι} {Wx : L2.St → XK} (ha : EA ta σ G W A m) : EX K (tCallS (PX K A T f) Wx ta) σ G W T (m >>= f) (Wx σ) := fun z hz H e e' Q qx q => by
  obtain ⟨i, hi, hz⟩ := bindS hz
  refine ha i hi H e e' _ fun vs H1 G1 u1 r1 => ?_
  exact ⟨G1, i, z, u1.gh, r1, hz, fun x hx d H2 G2 u2 r2 => qx x hx d H2 G2 (u1.trans u2) r2, fun x hx v H2 G2 u2 r2 => q x hx v H2 G2 (u1.trans u2) r2⟩
theorem ex_meth {C : Addr} {ns : List Str} {fl : α → List Pd} {m : Option α} {mi : Option ι} {me : Str} {f : α × ι → Option (Xn ⊕ γ)} {ta : TA} {Wx : L2.St → XK} (h : E to σ G W (rObj C ns fl) m) (ha : EA ta σ G W A mi) (hi : ns.contains me = false) :
    EX K (tMethT C me (PX K (aC (rObj C ns fl) A) T f) Wx to ta) σ G W T (m >>= fun o => mi >>= fun i => f (o, i)) (Wx σ) := fun z hz H e e' Q qx q => by
  obtain ⟨x, hx, hz⟩ := bindS hz
  obtain ⟨y, hy, hz⟩ := bindS hz
  refine h x hx H e e' _ fun v H1 G1 u r => ?_
  obtain ⟨a, dx, fs, rfl, h2, h3⟩ := r
  refine ⟨a, dx, fs, rfl, u.gh a _ h2, look_no h3.1 hi, ?_⟩
  refine (ha.mono u.gg (e'.trans u.hh)) y hy H1 u.gh (Ex.refl _) _ fun vs H3 G3 u3 r3 => ?_
  exact ⟨G3, (x, y), z, u3.gh, ⟨.ref a, vs, rfl, ⟨a, dx, fs, rfl, u3.gg a _ h2, h3.mono u3.gg⟩, r3⟩, hz, fun x hx d H4 G4 u4 r4 => qx x hx d H4 G4 ((u.trans u3).trans u4) r4, fun x hx v H4 G4 u4 r4 => q x hx v H4 G4 ((u.trans u3).trans u4) r4⟩
/-- f(..), alone -/
theorem x_callX {tz : TS} {m : Option (Xn ⊕ α)} {r : Xn ⊕ α} {Wx : XK} (w : Wo G0 H0 ls G H cs) (h : EX K te σ G H R m Wx) (hm : m = some r) (kx : ∀ e, r = .inl e → ∀ d H2 G2, Wo G0 H0 ls G2 H2 cs → Ex G G2 → Xat G2 e d → Wx (.ref (He.ga K e.cls)) (some d) H2)
    (k : ∀ x, r = .inr x → ∀ H2 G2, Wo G0 H0 ls G2 H2 cs → Ex G G2 → tz D σ H2) : tSeq (tDrop te) tz D σ H :=
  h r hm H w.ex (Ex.refl _) (fun _ H1 => tz D σ H1) (fun e he d H2 G2 u x => kx e he d H2 G2 (w.up u) u.gg x) fun x hx v H2 G2 u _ => k x hx H2 G2 (w.up u) u.gg
/-- x = f(..) -/
theorem x_setX {tz : TS} {i : Nat} {m : Option (Xn ⊕ α)} {r : Xn ⊕ α} {Wx : XK} (w : Wo G0 H0 ls G H cs) (h : EX K te σ G H R m Wx) (hm : m = some r) (kx : ∀ e, r = .inl e → ∀ d H2 G2, Wo G0 H0 ls G2 H2 cs → Ex G G2 → Xat G2 e d → Wx (.ref (He.ga K e.cls)) (some d) H2)
    (k : ∀ x, r = .inr x → ∀ v H2 G2, Wo G0 H0 ls G2 H2 cs → Ex G G2 → R.r G2 v x → tz D (σ.set i (some v)) H2) : tSeq (tAsg te (gName i)) tz D σ H :=
  h r hm H w.ex (Ex.refl _) (fun x H1 => gName i x σ H1 (tz D)) (fun e he d H2 G2 u x => kx e he d H2 G2 (w.up u) u.gg x) fun x hx v H2 G2 u y => k x hx v H2 G2 (w.up u) u.gg y
/-- return f(..) -/
theorem x_retX {tz : TS} {m : Option (Xn ⊕ α)} {r : Xn ⊕ α} {Wx : XK} (w : Wo G0 H0 ls G H cs) (h : EX K te σ G H R m Wx) (hm : m = some r) (kx : ∀ e, r = .inl e → ∀ d H2 G2, Wo G0 H0 ls G2 H2 cs → Ex G G2 → Xat G2 e d → Wx (.ref (He.ga K e.cls)) (some d) H2)
    (k : ∀ x, r = .inr x → ∀ v H2 G2, Wo G0 H0 ls G2 H2 cs → Ex G G2 → R.r G2 v x → D.rt v H2) : tSeq (tRet te) tz D σ H :=
  h r hm H w.ex (Ex.refl _) D.rt (fun e he d H2 G2 u x => kx e he d H2 G2 (w.up u) u.gg x) fun x hx v H2 G2 u y => k x hx v H2 G2 (w.up u) u.gg y
/-- e.f of the caught exception -/
theorem e_xf {a d : Addr} {e : Xn} {f : Str} {i : Nat} {y : Int} (hs : σ[i]? = some (some (.ref a))) (hx : Xat G e d) (hf : e.fs.lookup f = some (.int y)) : E (tXf a (.ref (He.ga K e.cls)) (some d) (He.ga K e.cls) f (tVar i)) σ G W rI (some y) := fun z hz H ee e' Q q => by
  cases hz
  obtain ⟨fs, h1, h2⟩ := hx
  obtain ⟨v, h3, h4⟩ := h2 f _ hf
  have h4 : v = .int y := h4
  subst h4
  exact ⟨.ref a, hs, rfl, rfl, d, fs, .int y, rfl, ee d _ h1, h3, q _ H G (Up.refl ee) rfl⟩
theorem e_xfS {a d : Addr} {e : Xn} {f : Str} {i : Nat} {y : Str} (hs : σ[i]? = some (some (.ref a))) (hx : Xat G e d) (hf : e.fs.lookup f = some (.str y)) : E (tXf a (.ref (He.ga K e.cls)) (some d) (He.ga K e.cls) f (tVar i)) σ G W rS (some y) := fun z hz H ee e' Q q => by
  cases hz
  obtain ⟨fs, h1, h2⟩ := hx
  obtain ⟨v, h3, h4⟩ := h2 f _ hf
  have h4 : v = .str y := h4
  subst h4
  exact ⟨.ref a, hs, rfl, rfl, d, fs, .str y, rfl, ee d _ h1, h3, q _ H G (Up.refl ee) rfl⟩
end
end Sim

/-! try with several clauses, each with or without a name -/
namespace L2
open PySem PySem.Spec PyProof.Rows
/-- one clause: its class, the slot of its name, its suite -/
abbrev Cla : Type := Value × Option Nat × (Addr → Value → Option Addr → TS)
def SuOk (X : Cx) (su : List Stmt) (ts : Addr → Value → Option Addr → TS) : Prop := ∀ (a : Addr) (oe : Obj) (cls : Value) (d : Option Addr) (pn : List (Addr × Obj)), Zc cls d oe → (∃ vs, oe.data = .fields vs) → PSs (X.suite a ((a, oe) :: pn)) su (ts a cls d)
inductive HdsA (X : Cx) : List ExceptHandler → List Cla → Prop
  | nil : HdsA X [] []
  | plain {x : Str} {c : Value} {ts} {b₀ : Stmt} {su : List Stmt} {np p : Pos} {hds l} (hc : Names X x c) (hsu : SuOk X (b₀ :: su) ts) (r : HdsA X hds l) : HdsA X (.ExceptHandler (some (.Name x np)) none (b₀ :: su) p :: hds) ((c, none, ts) :: l)
  | as_ {x n : Str} {i : Nat} {c : Value} {ts} {b₀ : Stmt} {su : List Stmt} {np p : Pos} {hds l} (hc : Names X x c) (hi : X.N[i]? = some n) (hln : X.env.kindOf n = some .local) (hsu : SuOk X (b₀ :: su) ts) (r : HdsA X hds l) :
      HdsA X (.ExceptHandler (some (.Name x np)) (some n) (b₀ :: su) p :: hds) ((c, some i, ts) :: l)
/-- the exception at a is in the air over the state s, sI is the state without it -/
structure Aloft (X : Cx) (pins : List (Addr × Obj)) (σ : L2.St) (H : Hp) (cls : Value) (d : Option Addr) (a : Addr) (B : Heap) (sI s : Shared) : Prop where
  inv : Inv X pins σ H sI
  nb : ∀ b o, sI.heap.get? b = some o → b ∉ frs X.stack → B.get? b = some o
  up : sI.heap.UpToSlots s.heap
  fl : HandSPX.FlyingZ B X.stack a (Zc cls d) s.heap
  na : H a = none
  os : s.os = sI.os
  ag : AllBare s.gens
section
variable {X : Cx} {pins : List (Addr × Obj)} {σ : L2.St} {H : Hp} {cls : Value} {d : Option Addr} {a : Addr} {B : Heap} {sI s : Shared}
/-- seen from within a suite -/
theorem Aloft.within (A : Aloft X pins σ H cls d a B sI s) (hs : X.stack = X.env :: X.outer) (hf : X.env.frame = some X.env.locals) :
    ∃ oe, s.heap.get? a = some oe ∧ Zc cls d oe ∧ (∃ vs, oe.data = .fields vs) ∧ Inv X pins σ H s ∧ Inv (X.suite a ((a, oe) :: (X.pn ++ pins))) [] σ H s := by
  obtain ⟨oe, vs, h1, h2, h3⟩ := A.fl.there
  have J : Inv X pins σ H s := A.inv.landed A.nb A.fl.1 A.up A.os A.ag
  have out : a ∉ frs X.stack := fun hm => by
    obtain ⟨_, o, ho, hn⟩ := A.fl.2.2.1.mem hm
    rw [h1] at ho
    cases ho
    exact hn _ h3
  rw [hs] at out
  refine ⟨oe, h1, h2, ⟨vs, h3⟩, J, J.suite h1 h3 A.na (fun z => out ?_) (fun hm => out ?_)⟩
  · exact List.mem_filterMap.mpr ⟨X.env, List.mem_cons_self, by rw [hf, z]⟩
  · obtain ⟨e, he, q⟩ := List.mem_filterMap.mp hm
    exact List.mem_filterMap.mpr ⟨e, List.mem_cons_of_mem _ he, q⟩
/-- no clause is left -/
theorem Aloft.pass {Wout : WX} {Q : Flow → Shared → Prop} (A : Aloft X pins σ H cls d a B sI s) (hs : X.stack = X.env :: X.outer) (hf : X.env.frame = some X.env.locals) (tk : Takes X Wout) (w : Wout cls d σ H) :
    wpAny (model X.prog X.w) X.A (handleBy (.ref a) X.env []) Q X.xe s := by
  have fl := A.fl
  obtain ⟨_, _, _, oe, vs, T, oT, ts, h1, h2, h3, h4, _⟩ := id fl
  refine wpAny_handleBy_nil ?_
  unfold PySem.passOn
  refine wpAny_bind (wpAny_field h1 h3 h4 ?_)
  rw [if_neg (show ¬ ((Value.ref T == Value.none) = true) from by simp)]
  have last : wpAny (model X.prog X.w) X.A (setFlight (.ref a) X.env.frame) (fun _ s4 => wpAny (model X.prog X.w) X.A (throw (.ref a) : Sem Flow) Q X.xe s4) X.xe s := by
    rw [hf]
    rw [hs] at fl
    exact HandSPX.setFlight_upZ fl fun h4 hh up => wpAny_throw (tk _ _ ⟨a, B, sI, pins, σ, H, cls, d, rfl, A.inv, A.nb, A.up.trans up, .inr (.inr (by rw [hs]; exact hh)), A.na, A.os, A.ag, w⟩)
  first
    | exact wpAny_bind (wpAny_pure (wpAny_bind last))
    | exact wpAny_bind last
/-- the clauses, one after the other -/
theorem Aloft.go {Wout : WX} {D : Ends} (A : Aloft X pins σ H cls d a B sI s) (ok : X.Ok) (hN : X.N.Nodup) (hs : X.stack = X.env :: X.outer) (hf : X.env.frame = some X.env.locals) (tk : Takes X Wout) {hds : List ExceptHandler} {l : List Cla}
    (hk : HdsA X hds l) : wManyA X.K Wout D l cls d σ H → wpAny (model X.prog X.w) X.A (handleBy (.ref a) X.env hds) (SP X pins D) X.xe s := by
  obtain ⟨oe, h1, h2, _, J, S⟩ := A.within hs hf
  have ask : ∀ {x : Str} {c : Value} {np : Pos} {Q : Value → Shared → Prop} {E : Value → Shared → Prop}, Names X x c → Q c s → wpAny (model X.prog X.w) (X.A.mark (some (.ref a))) (eval (.Name x np) X.env) Q E s := fun {x c np Q E} hc q => by
    obtain ⟨hg, hd, hm | ⟨hm, hv, hn⟩⟩ := hc
    · exact ld_glob (X := X.suite a ((a, oe) :: (X.pn ++ pins))) S hg hm q hd
    · exact ld_blt (X := X.suite a ((a, oe) :: (X.pn ++ pins))) S hg hm hv q hn hd
  have kind : PySem.W.Looks (model X.prog X.w) s.heap (typeOf (.ref a)) cls := fun A Q E s k q => wpAny_typeOf_ref (k _ _ h1) (by rw [h2.1]; exact q)
  induction hk with
  | nil => exact fun w => A.pass hs hf tk w
  | @plain x c ts b₀ su np p hds l hc hsu r ih =>
    rintro ⟨b, hb, yes, no⟩
    refine wpAny_handleBy_cons (codeAny_handlers_test ?_) (by intro q; cases q)
    refine ask hc ((PySem.W.exm_one (M := model X.prog X.w) J.kIn kind hb).here ?_)
    cases b with
    | false => exact ih (no rfl)
    | true =>
      refine codeAny_handlers_suite ?_
      have fl := A.fl
      rw [hs] at fl
      refine HandSPX.lands_againZ fl fun h4 fl4 up4 => ?_
      have A4 : Aloft X pins σ H cls d a B sI { s with heap := h4 } := ⟨A.inv, A.nb, A.up.trans up4, by rw [hs]; exact fl4, A.na, A.os, A.ag⟩
      obtain ⟨oe4, _, z4, f4, _, S4⟩ := A4.within hs hf
      refine wpAny_mono ((hsu a oe4 cls d _ z4 f4).run [] _ _ H _ S4 (yes rfl a A.na)) (fun f s6 hsp => ?_) (fun _ _ z => False.elim z)
      cases f with
      | ret u => obtain ⟨v, σ6, H6, S6, r6, q⟩ := hsp; exact ⟨v, σ6, H6, S6.unsuite ok, r6, q⟩
      | next => obtain ⟨σ6, H6, S6, q⟩ := hsp; exact ⟨σ6, H6, S6.unsuite ok, q⟩
      | brk => obtain ⟨σ6, H6, S6, q⟩ := hsp; exact ⟨σ6, H6, S6.unsuite ok, q⟩
      | cont => obtain ⟨σ6, H6, S6, q⟩ := hsp; exact ⟨σ6, H6, S6.unsuite ok, q⟩
  | @as_ x n i c ts b₀ su np p hds l hc hi hln hsu r ih =>
    rintro ⟨b, hb, yes, no⟩
    refine wpAny_handleBy_cons (codeAny_handlers_test ?_) (by intro q; cases q)
    refine ask hc ((PySem.W.exm_one (M := model X.prog X.w) J.kIn kind hb).here ?_)
    cases b with
    | false => exact ih (no rfl)
    | true =>
      refine codeAny_handlers_suite_as ?_
      have fl := A.fl
      rw [hs] at fl
      refine HandSPX.lands_againZ fl fun h4 fl4 up4 => ?_
      have A4 : Aloft X pins σ H cls d a B sI { s with heap := h4 } := ⟨A.inv, A.nb, A.up.trans up4, by rw [hs]; exact fl4, A.na, A.os, A.ag⟩
      obtain ⟨oe4, _, z4, f4, _, S4⟩ := A4.within hs hf
      refine store_ok (X := X.suite a ((a, oe4) :: (X.pn ++ pins))) (v := .ref a) S4 hN hi (.inl hln) rfl (fun s5 S5 => ?_) (.inr hln)
      refine wpAny_mono ((hsu a oe4 cls d _ z4 f4).run [] s5 _ H _ S5 (yes rfl a A.na)) (fun f s6 hsp => ?_) (fun _ _ z => False.elim z)
      have off : ∀ {σ6 : L2.St} {H6 : Hp} {Q : Shared → Prop}, Inv (X.suite a ((a, oe4) :: (X.pn ++ pins))) [] σ6 H6 s6 → (∀ s7, Inv X pins (σ6.set i none) H6 s7 → Q s7) →
          wpAny (model X.prog X.w) X.A (do bindName X.env n .none; unbindBehindTheSuite X.env n p) (fun _ s7 => Q s7) X.xe s6 := fun S6 k => gone_ok (S6.unsuite ok) hN hi hln k
      cases f with
      | ret u => obtain ⟨v, σ6, H6, S6, r6, q⟩ := hsp; exact off S6 fun s7 J7 => ⟨v, _, H6, J7, r6, q⟩
      | next => obtain ⟨σ6, H6, S6, q⟩ := hsp; exact off S6 fun s7 J7 => ⟨_, H6, J7, q⟩
      | brk => obtain ⟨σ6, H6, S6, q⟩ := hsp; exact off S6 fun s7 J7 => ⟨_, H6, J7, q⟩
      | cont => obtain ⟨σ6, H6, S6, q⟩ := hsp; exact off S6 fun s7 J7 => ⟨_, H6, J7, q⟩
end
section
variable {X : Cx} {body : List Stmt} {h₀ : ExceptHandler} {hds : List ExceptHandler} {l : List Cla} {pos : Pos} {tb : WX → TS} {Wout : WX}
theorem ps_tryA (hN : X.N.Nodup) (hs : X.stack = X.env :: X.outer) (hf : X.env.frame = some X.env.locals) (tk : Takes X Wout)
    (hb : ∀ (W : WX) (pn : List (Addr × Obj)) (xe : Value → Shared → Prop), Takes (X.tr pn xe) W → PassesOwn (model X.prog X.w) X.A X.env xe → PSs (X.tr pn xe) body (tb W))
    (hh : HdsA X (h₀ :: hds) l) : PS X (.Try body (h₀ :: hds) [] [] pos) (fun D σ H => tb (wManyA X.K Wout D l) D σ H) := by
  refine ⟨fun pins s σ H D I h => wpAny_Try_except ?_⟩
  have ok := I.ok
  refine wpAny_mono ((hb _ (X.pn ++ pins) (fun e s₁ => wpAny (model X.prog X.w) X.A (noteFrame e X.env) (fun _ s₂ => wpAny (model X.prog X.w) X.A (setFlight e none) (fun _ s₃ =>
    wpAny (model X.prog X.w) X.A (handleBy e X.env (h₀ :: hds)) (SP X pins D) X.xe s₃) X.xe s₂) X.xe s₁) (fun u s' xx => ?_) PassesOwn.looking).run [] s σ H D (I.toTry _) h) (fun f s1 hsp => ?_) (fun e s1 he => he)
  · obtain ⟨a, B, sI, pins', σ', H', cls, d, rfl, J, nb, up, sky, na, os, ag, w⟩ := xx
    have sky' : Sky B (X.env :: X.outer) a (Zc cls d) X.env.locals s'.heap := by rw [← hs]; exact sky
    refine Sky.land Zc.steady (by rw [ok.frames, hs]) hf sky' fun h3 fl3 up3 => ?_
    exact Aloft.go (s := { s' with heap := h3 }) ⟨J.ofTry ok, nb, up.trans up3, by rw [hs]; exact fl3, na, os, ag⟩ ok hN hs hf tk hh w
  · cases f with
    | ret u => obtain ⟨v, σ', H', J, r, q⟩ := hsp; exact ⟨v, σ', H', J.ofTry ok, r, q⟩
    | next => obtain ⟨σ', H', J, q⟩ := hsp; exact wpAny_execs_nil ⟨σ', H', J.ofTry ok, q⟩
    | brk => obtain ⟨σ', H', J, q⟩ := hsp; exact ⟨σ', H', J.ofTry ok, q⟩
    | cont => obtain ⟨σ', H', J, q⟩ := hsp; exact ⟨σ', H', J.ofTry ok, q⟩
end
end L2

/-! the hook with own exceptions -/
namespace Sim
open PySem PySem.Spec PyProof.Rows L2 Evl
/-- the property f of the class C, its place, its getter -/
def prP (K : PySem.W.Frag) (C f : Str) : Addr := He.ma K (He.ga K C) f
def wrG (K : PySem.W.Frag) (k : String) (C f : Str) : Addr := match PySem.W.recIn K (prP K C f) k with
  | some (.ref g :: _) => g
  | _ => 0
abbrev prG (K : PySem.W.Frag) (C f : Str) : Addr := wrG K "property" C f
/-- a static method m of the class C -/
structure StatOf (K : PySem.W.Frag) (C : Addr) (m : Str) (p g : Addr) : Prop where
  ga : PySem.W.specialIn K (.ref C) "__getattribute__" = some (some (.builtin "type.__getattribute__"))
  ty : PySem.W.typeIn K (.ref C) = some (.type "type")
  rd : PySem.W.readsIn K C (.type "type") = true
  at_ : PySem.W.findCls K (.ref C) (.type "type") m = some (.get (.builtin "staticmethod.__get__") (.ref p) .none (.ref C))
  rc : ∃ rest, PySem.W.recIn K p "staticmethod" = some (.ref g :: rest)
  hd : PySem.W.handedIn (.ref g) = true
def statB (C f : Str) (K : PySem.W.Frag) : Bool := decide (PySem.W.specialIn K (.ref (He.ga K C)) "__getattribute__" = some (some (.builtin "type.__getattribute__"))) && (decide (PySem.W.typeIn K (.ref (He.ga K C)) = some (.type "type")) &&
  (PySem.W.readsIn K (He.ga K C) (.type "type") && ((match PySem.W.findCls K (.ref (He.ga K C)) (.type "type") f with
    | some (.get (.builtin n) (.ref p) .none (.ref D)) => n == "staticmethod.__get__" && (p == prP K C f && D == He.ga K C)
    | _ => false) && (match PySem.W.recIn K (prP K C f) "staticmethod" with
    | some (.ref g :: _) => PySem.W.handedIn (.ref g)
    | _ => false))))
theorem statB_ok {C f : Str} {K : PySem.W.Frag} (h : statB C f K = true) : StatOf K (He.ga K C) f (prP K C f) (wrG K "staticmethod" C f) := by
  obtain ⟨h1, h⟩ := He.ba h
  obtain ⟨h2, h⟩ := He.ba h
  obtain ⟨h3, h⟩ := He.ba h
  obtain ⟨h4, h5⟩ := He.ba h
  have h4' : PySem.W.findCls K (.ref (He.ga K C)) (.type "type") f = some (.get (.builtin "staticmethod.__get__") (.ref (prP K C f)) .none (.ref (He.ga K C))) := by
    split at h4
    · rename_i n p D e
      simp only [Bool.and_eq_true, beq_iff_eq] at h4
      obtain ⟨rfl, rfl, rfl⟩ := h4
      exact e
    · cases h4
  unfold wrG
  cases e : PySem.W.recIn K (prP K C f) "staticmethod" with
  | none => rw [e] at h5; cases h5
  | some l =>
    rw [e] at h5
    cases l with
    | nil => cases h5
    | cons v r =>
      cases v with
      | ref g => exact ⟨of_decide_eq_true h1, of_decide_eq_true h2, h3, h4', ⟨r, e⟩, h5⟩
      | _ => cases h5
def propB (C f : Str) (K : PySem.W.Frag) : Bool := decide (PySem.W.findIn K (.ref (He.ga K C)) f = some (some (.ref (prP K C f)))) && (decide (PySem.W.specialIn K (.ref (prP K C f)) "__get__" = some (some (.builtin "property.__get__"))) &&
  (decide (PySem.W.takesIn K (.ref (prP K C f)) = some true) && (match PySem.W.recIn K (prP K C f) "property" with
    | some (.ref _ :: _) => true
    | _ => false)))
theorem propB_ok {C f : Str} {K : PySem.W.Frag} (h : propB C f K = true) : PropOf K (He.ga K C) f (prP K C f) (prG K C f) := by
  obtain ⟨h1, h⟩ := He.ba h
  obtain ⟨h2, h⟩ := He.ba h
  obtain ⟨h3, h4⟩ := He.ba h
  refine ⟨of_decide_eq_true h1, of_decide_eq_true h2, of_decide_eq_true h3, ?_⟩
  unfold prG wrG
  cases e : PySem.W.recIn K (prP K C f) "property" with
  | none => rw [e] at h4; cases h4
  | some l =>
    rw [e] at h4
    cases l with
    | nil => cases h4
    | cons v r =>
      cases v with
      | ref g => exact ⟨r, rfl⟩
      | _ => cases h4
/-- a property's getter: a def -/
structure GeD where
  kind : String
  cls : Str
  prop : Str
  qual : Str
  params : Arguments
  body : List Stmt
  scope : Scope
def fnG (K : PySem.W.Frag) (k : String) (C f : Str) : He.FnW := match K.lookup (wrG K k C f) with
  | some ⟨_, _, .func fd, _⟩ => some (fd.name, fd.qualname, fd.params, fd.body, fd.scope, fd.globals, fd.closure, fd.builtins)
  | _ => none
def GeD.val (d : GeD) : He.FnW := some (d.prop, d.qual, d.params, .stmts d.body, d.scope, mainGlobals, [], builtinsNs)
def GeD.ok (K : PySem.W.Frag) (d : GeD) : Bool := (bif d.kind == "property" then propB d.cls d.prop K else statB d.cls d.prop K) && (PySem.W.keepIn K (.ref (wrG K d.kind d.cls d.prop)) && (match K.lookup (wrG K d.kind d.cls d.prop) with
  | some ⟨_, _, .func fd, _⟩ => PySem.W.codeIn K fd.code d.qual && (He.dflB K fd.defaults [] && He.kwdB K fd.kwdefaults [])
  | _ => false))
theorem GeD.funD {K : PySem.W.Frag} {d : GeD} (e : fnG K d.kind d.cls d.prop = d.val) (c : d.ok K = true) : ∃ fd, FunD K d.prop d.qual d.params d.body d.scope [] [] (wrG K d.kind d.cls d.prop) fd := by
  obtain ⟨_, c⟩ := He.ba c
  obtain ⟨kp, c2⟩ := He.ba c
  unfold fnG at e
  cases q : K.lookup (wrG K d.kind d.cls d.prop) with
  | none => rw [q] at c2; cases c2
  | some o =>
    obtain ⟨oc, od, dt, osl⟩ := o
    rw [q] at c2 e
    cases dt with
    | func fd =>
      obtain ⟨n1, n2, n3, n4, n5, n6, n7, n8, n9, n10, n11, n12, n13, n14, n15⟩ := fd
      have e2 : (some (n1, n2, n3, n4, n5, n6, n7, n15) : He.FnW) = (some (d.prop, d.qual, d.params, .stmts d.body, d.scope, mainGlobals, [], builtinsNs) : He.FnW) := e
      simp only [Option.some.injEq, Prod.mk.injEq] at e2
      obtain ⟨h1, h2, h3, h4, h5, h6, h7, h8⟩ := e2
      subst h1 h2 h3 h4 h5 h6 h7 h8
      obtain ⟨k1, k2⟩ := He.ba (show (PySem.W.codeIn K n13 d.qual && (He.dflB K n8 [] && He.kwdB K n9 [])) = true from c2)
      obtain ⟨k3, k4⟩ := He.ba k2
      exact ⟨_, ⟨oc, od, n8, n9, n10, n11, n12, n13, n14, osl, rfl, q, k1, He.dflB_ok k3, He.kwdB_ok k4⟩, kp⟩
    | _ => cases c2
abbrev AlX : Type := He.AlD × Bool × List FnY × List He.FnW
def obsX (fa : List He.Fa) (fn : List He.DefD) (ex : List (PySem.W.Frag → Bool)) (xs : List XcD) (gs : List GeD) (file : Str) (K : PySem.W.Frag) : AlX := (He.obsD fa fn K, (ex.all fun e => e K) && ((xs.all fun d => d.ok K file) && gs.all fun d => d.ok K), (xs.map fun d => fnY K d.cls), gs.map fun d => fnG K d.kind d.cls d.prop)
def obsXG (n : Nat) (fa : List He.Fa) (fn : List He.DefD) (ex : List (PySem.W.Frag → Bool)) (xs : List XcD) (gs : List GeD) (file : Str) (g : Addr → Option Obj) : AlX := obsX fa fn ex xs gs file (He.frG g (cStatics :: He.asD g n))
structure SaysX (fa : List He.Fa) (fn : List He.DefD) (ex : List (PySem.W.Frag → Bool)) (xs : List XcD) (gs : List GeD) (file : Str) (K : PySem.W.Frag) : Prop where
  d : He.SaysD fa fn K
  x : ((ex.all fun e => e K) && ((xs.all fun d => d.ok K file) && gs.all fun d => d.ok K)) = true
  y : (xs.map fun d => fnY K d.cls) = xs.map XcD.val
  g : (gs.map fun d => fnG K d.kind d.cls d.prop) = gs.map GeD.val
def hookX (n : Nat) (fa : List He.Fa) (fn : List He.DefD) (ex : List (PySem.W.Frag → Bool)) (xs : List XcD) (gs : List GeD) (file : Str) : PySem.W.Hook where
  α := AlX
  obs := fun s => obsXG n fa fn ex xs gs file s.heap.get?
  val := fun _ => (He.valD fn, true, xs.map XcD.val, gs.map GeD.val)
  says := fun _ h => ∃ K : PySem.W.Frag, K.In h ∧ SaysX fa fn ex xs gs file K
  of := fun _ _ e => ⟨_, He.frG_in, congrArg (fun z : AlX => z.1) e, congrArg (fun z : AlX => z.2.1) e, congrArg (fun z : AlX => z.2.2.1) e, congrArg (fun z : AlX => z.2.2.2) e⟩
  keeps := fun _ _ _ ⟨K, hK, c⟩ k => ⟨K, PySem.W.Frag.In.keeps hK k, c⟩
theorem obsXG_eq {n : Nat} {fa : List He.Fa} {fn : List He.DefD} {ex : List (PySem.W.Frag → Bool)} {xs : List XcD} {gs : List GeD} {file : Str} {g : Addr → Option Obj} {s : Shared} (h : ∀ a, g a = s.heap.get? a) : obsXG n fa fn ex xs gs file g = (hookX n fa fn ex xs gs file).obs s := by
  have e : g = s.heap.get? := funext h
  rw [e] <;> rfl
structure TxX (fa : List He.Fa) (fn : List He.DefD) (es : List (PySem.W.Frag → Bool)) (xs : List XcD) (gs : List GeD) (file : Str) (K : PySem.W.Frag) (mg : Str → Option Value) : Prop extends TxE fa fn es K mg where
  xo : (xs.all fun d => d.ok K file) = true
  xv : (xs.map fun d => fnY K d.cls) = xs.map XcD.val
  go : (gs.all fun d => d.ok K) = true
  gv : (gs.map fun d => fnG K d.kind d.cls d.prop) = gs.map GeD.val
section
variable {fa : List He.Fa} {fn : List He.DefD} {es : List (PySem.W.Frag → Bool)} {xs : List XcD} {gs : List GeD} {file : Str} {K : PySem.W.Frag} {mg : Str → Option Value}
theorem TxX.mk' {h : Heap} (KX : K.In h) (G : h.Ns mainGlobals mg) (c : SaysX fa fn es xs gs file K) : TxX fa fn es xs gs file K mg := by
  obtain ⟨h1, h2⟩ := He.ba c.x
  obtain ⟨h2, h3⟩ := He.ba h2
  exact ⟨⟨⟨⟨h, KX, G⟩, c.d⟩, h1⟩, h2, c.y, h3, c.g⟩
theorem TxX.xc (T : TxX fa fn es xs gs file K mg) (i : Nat) {d : XcD} (h : xs[i]? = some d) : fnY K d.cls = d.val ∧ d.ok K file = true := by
  have e2 : (xs.map fun d => fnY K d.cls)[i]? = (xs.map XcD.val)[i]? := by rw [T.xv]
  rw [List.getElem?_map, List.getElem?_map, h] at e2
  exact ⟨Option.some.inj e2, List.all_eq_true.mp T.xo d (List.mem_of_getElem? h)⟩
theorem TxX.ge (T : TxX fa fn es xs gs file K mg) (i : Nat) {d : GeD} (h : gs[i]? = some d) : (d.kind = "property" → PropOf K (He.ga K d.cls) d.prop (prP K d.cls d.prop) (prG K d.cls d.prop)) ∧ (d.kind = "staticmethod" → StatOf K (He.ga K d.cls) d.prop (prP K d.cls d.prop) (wrG K "staticmethod" d.cls d.prop) ∧ PySem.W.keepIn K (.ref (wrG K d.kind d.cls d.prop)) = true) ∧ ∃ fd, FunD K d.prop d.qual d.params d.body d.scope [] [] (wrG K d.kind d.cls d.prop) fd := by
  have e2 : (gs.map fun d => fnG K d.kind d.cls d.prop)[i]? = (gs.map GeD.val)[i]? := by rw [T.gv]
  rw [List.getElem?_map, List.getElem?_map, h] at e2
  have o := List.all_eq_true.mp T.go d (List.mem_of_getElem? h)
  have o1 := (He.ba o).1
  refine ⟨fun e => ?_, fun e => ⟨?_, (He.ba (He.ba o).2).1⟩, GeD.funD (Option.some.inj e2) o⟩
  · rw [e] at o1; exact propB_ok o1
  · rw [e] at o1
    exact statB_ok o1
end
/-- further Bools: fields of an exception, isinstance of it, a property -/
def noB (C f : Str) (K : PySem.W.Frag) : Bool := decide (PySem.W.findIn K (.ref (He.ga K C)) f = some none)
theorem noB_ok {C f : Str} {K : PySem.W.Frag} (h : noB C f K = true) : PySem.W.findIn K (.ref (He.ga K C)) f = some none := of_decide_eq_true h
def xfB' (C : Str) (K : PySem.W.Frag) : Bool := xfB K (He.ga K C)
theorem xfB'_ok {C : Str} {K : PySem.W.Frag} (h : xfB' C K = true) : XfC K (He.ga K C) := xfB_ok h
def exmB (C D : Str) (b : Bool) (K : PySem.W.Frag) : Bool := decide (PySem.W.exmOne K (.ref (He.ga K C)) (.ref (He.ga K D)) = some b)
theorem exmB_ok {C D : Str} {b : Bool} {K : PySem.W.Frag} (h : exmB C D b K = true) : PySem.W.exmOne K (.ref (He.ga K C)) (.ref (He.ga K D)) = some b := of_decide_eq_true h
end Sim

/-! isinstance of a caught exception that has fields; properties -/
namespace PySem.W
open PySem PySem.Calls PyProof.Rows PySem.Spec
section
variable {prog : Program} {w : World} {A : Around} {E : Value → Shared → Prop} {s : Shared} {K : Frag} {x D : Addr} {ox : Obj} {od : Obj}
theorem exc_class {Q : Option Value → Shared → Prop} (C : L2.ExcC K D) (X : K.In s.heap) (I : InstAt s.heap x ox D (some od)) (h : Q (some (.ref D)) { s with toks := s.toks + 1 }) : wpAny (model prog w) A (getAttr? (.ref x) "__class__") Q E s := by
  have hf : findObj K D (some od) "__class__" = some (.bind (.builtin "getset_descriptor.__get__") (.builtin "object.__class__")) := findObj_data (by obtain ⟨cd, hc, _⟩ := any_some C.hd; rw [hc]; rfl) C.ha C.hn C.ht
  obtain ⟨hp, g, d, t, os⟩ := s
  have ty := I.type (M := model prog w)
  have ne : (Value.builtin "BaseException.__getattribute__" == Value.builtin "object.__getattribute__") = false := by decide +kernel
  unfold getAttr? getAttrBy? getAttrBy
  refine wpAny_bind (wpAny_mkText (wpAny_bind (wpAny_attempt (wpAny_holding (wpAny_bind (ty.at (wpAny_bind ((looks_findIn (M := model prog w) X C.hg).at ?_))))))))
  refine KFB.if_not (by rw [ne]; rfl) ?_
  unfold getAttrByItsOwn hookBefore callGetattribute boundAndCalled
  refine wpAny_bind (KFB.if_so rfl ((looks_findIn (M := model prog w) X C.hk).at ?_))
  refine wpAny_bind (wpAny_attempt (wpAny_holding (KFB.if_not rfl ?_)))
  rw [PySem.F.excAttr_ValueError.ga.bind (.ref x)]
  refine wpAny_bind (wpAny_pure ?_)
  show wpAny _ _ (call (.builtin "BaseException.__getattribute__") [.ref x, .str "__class__" t]) _ _ _
  refine wpAny_call (codeAny_call_builtin PySem.F.excAttr_ValueError.ga.plain PySem.F.entry_bexc_ga ?_)
  refine @check_slot (model prog w) _ _ ⟨hp, g, d, t + 1, os⟩ "BaseException.__getattribute__" "BaseException" "__getattribute__" (.ref x) [.str "__class__" t] [] _ (by decide +kernel) (by decide +kernel) (ty.andThen (looks_subIn X C.hs)) (PySem.F.args_bexc_ga (.ref x) (.str "__class__" t)) ?_
  unfold Builtin.«object.__getattribute__»
  refine wpAny_bind (wpAny_of_eq (a := ((Value.ref x : Value), [Value.str "__class__" t])) (by first | rfl | (simp only [slotArgs]; rfl)) ?_)
  refine wpAny_bind (wpAny_pure (wpAny_bind (ty.at (wpAny_bind ((looks_find (M := model prog w) X I hf).at ?_)))))
  refine wpAny_bind (wpAny_holding (wpAny_call (class_get (s := ⟨hp, g, d, t + 1, os⟩) (ox := ox) (od := some od) X I C.hm ?_)))
  refine wpAny_pure ?_
  show wpAny _ _ (handedOut (.ref D)) _ _ _
  rw [handedOut_of (v := .ref D) rfl]
  first
    | exact wpAny_pure (wpAny_pure h)
    | exact wpAny_pure h
    | exact wpAny_pure (wpAny_bind (wpAny_pure (wpAny_pure h)))
end
end PySem.W
namespace L2
open PySem PySem.Spec PyProof.Rows
/-- isinstance(e, c), e the caught exception, its dict at dd -/
def rIsX (K : PySem.W.Frag) (D a dd : Addr) : List V → Hp → VK → Prop := fun xs H Q => ∃ (c : V) (cv : Value) (b : Bool) (fs : List (Str × V)), xs = [.ref a, c] ∧ (∀ u, RelV c u → u = cv) ∧ PySem.W.kitOne K (.ref D) cv = some b ∧ H dd = some (.xd fs) ∧ Q (.bl b) H
theorem call_isX {X : Cx} {a D dd : Addr} {oe : Obj} {pn : List (Addr × Obj)} (C : ExcC X.K D) (hz : Zc (.ref D) (some dd) oe) (hf : ∃ vs, oe.data = .fields vs) : CallR (X.suite a ((a, oe) :: pn)) (.builtin "isinstance") (rIsX X.K D a dd) := by
  intro pins s σ H xs us Q I r h
  obtain ⟨c, cv, b, fs, rfl, hcv, e, hd, q⟩ := h
  cases r with
  | cons rx rr =>
    cases rr with
    | cons rt rr =>
      cases rr
      cases rx
      have ec := hcv _ rt
      subst ec
      obtain ⟨hget, _⟩ := I.pin (a, oe) (List.mem_append.mpr (.inl List.mem_cons_self))
      obtain ⟨vs, hv⟩ := hf
      obtain ⟨mA, hns, _⟩ : ObjOk X.prog X.w H s.heap dd (.xd fs) := I.hok dd _ hd
      obtain ⟨od, ho, _⟩ := lookIn_ns hns
      have J : PySem.W.InstAt s.heap a oe D (some od) := ⟨hget, hz.1, by unfold PySem.W.notCls; rw [hv] <;> rfl, by rw [hz.2]; exact ho⟩
      have Z : PySem.W.KitX X.K (.ref a) (.ref D) (fun h => PySem.W.InstAt h a oe D (some od)) := {
        ty := fun _ _ _ I => I.type
        it := (fun _ _ Y _ => by
          obtain ⟨cd, hc, _⟩ := PySem.W.any_some C.hd
          unfold PySem.W.clsIn at hc
          split at hc
          · rename_i ho
            intro A' Q' E' s' k q
            unfold isType loadHead
            exact wpAny_bind (wpAny_loadPart (k _ _ (Y _ _ ho)) (wpAny_pure q))
          · cases hc)
        ne := (PySem.W.handS_kitx_exc (x := a) (ox := oe) C.hg C.hk C.hs C.hd C.ha C.hn C.ht C.hm).ne
        ca := fun Y I k => PySem.W.exc_class C Y I k }
      exact PySem.W.kia_one Z I.kIn J e (fun z => nomatch z) fun tk => ⟨.bl b, H, I.kept (t' := tk) fun _ _ z => z, rfl, q⟩
end L2
namespace Sim
open PySem PySem.Spec PyProof.Rows L2 Evl
section
variable {K : PySem.W.Frag} {σ : L2.St} {G H W : Hp} {to : TE} {ta : TA} {α γ : Type} {T : Rep γ}
/-- o.f, a property -/
theorem e_prop {C : Addr} {ns : List Str} {fl : α → List Pd} {m : Option α} {f : α × Unit → Option γ} {X : XK} (h : E to σ G W (rObj C ns fl) m) : E (tProp C (PF (aC (rObj C ns fl) aN) T f) [] X to) σ G W T (m >>= fun o => f (o, ())) := fun z hz H e e' Q q => by
  obtain ⟨x, hx, hz⟩ := bindS hz
  refine h x hx H e e' _ fun v H1 G1 u r => ?_
  obtain ⟨a, dx, fs, rfl, h2, h3⟩ := r
  refine ⟨a, dx, fs, rfl, u.gh a _ h2, ?_⟩
  exact ⟨G1, (x, ()), z, u.gh, ⟨.ref a, [], rfl, ⟨a, dx, fs, rfl, h2, h3⟩, rfl⟩, hz, fun v H4 G4 u4 r4 => q v H4 G4 (u.trans u4) r4⟩
/-- isinstance(e, X), e the caught exception -/
theorem rc_isX {a dd : Addr} {D : Addr} {c : V} {cv : Value} {b : Bool} {e : Xn} (hcv : ∀ u, RelV c u → u = cv) (hk : PySem.W.kitOne K (.ref D) cv = some b) (hx : Xat G e dd) {Q : VK} (he : Ex G H) (q : Q (.bl b) H) : rIsX K D a dd [.ref a, c] H Q := by
  obtain ⟨fs, h1, _⟩ := hx
  exact ⟨c, cv, b, fs, rfl, hcv, hk, he dd _ h1, q⟩
end
end Sim

namespace Sim
open PySem PySem.Spec PyProof.Rows L2 Evl
theorem look_app {α : Type} {f : Str} {x : α} : ∀ {l r : List (Str × α)}, (∀ y, (f, y) ∉ l) → (l ++ [(f, x)]).lookup f = some x
  | [], _, _ => by simp [List.lookup]
  | (g, y) :: l, r, h => by
    have hg : (f == g) = false := by
      rw [beq_eq_false_iff_ne]
      rintro rfl
      exact h y (List.mem_cons_self ..)
    rw [List.cons_append, List.lookup_cons, hg]
    exact look_app (r := r) fun z hz => h z (List.mem_cons_of_mem _ hz)
theorem look_app' {α : Type} {f g : Str} {x : α} (hne : f ≠ g) : ∀ {l : List (Str × α)} {y : α}, l.lookup f = some y → (l ++ [(g, x)]).lookup f = some y
  | [], _, h => by cases h
  | (k, z) :: l, y, h => by
    rw [List.cons_append, List.lookup_cons]
    rw [List.lookup_cons] at h
    cases e : (f == k) with
    | true => rw [e] at h; exact h
    | false => rw [e] at h; exact look_app' hne h
/-- the fields of a raised exception, from what its arguments tell -/
theorem look_rev {G : Hp} : ∀ {names : List Str} {vs : List V} {xs : List Xv} {f : Str} {x : Xv}, names.Nodup → Paired (rX.r G) vs xs → (names.zip xs).lookup f = some x → ∃ v, (names.zip vs).reverse.lookup f = some v ∧ rX.r G v x
  | [], vs, xs, f, x, _, _, h => by cases h
  | n :: names, [], xs, f, x, _, r, h => by cases r; cases h
  | n :: names, v :: vs, [], f, x, _, r, h => by cases r
  | n :: names, v :: vs, y :: xs, f, x, nd, r, h => by
    cases r with
    | cons r1 r2 =>
    obtain ⟨hn, nd⟩ := List.nodup_cons.mp nd
    rw [List.zip_cons_cons, List.lookup_cons] at h
    rw [List.zip_cons_cons, List.reverse_cons]
    cases e : (f == n) with
    | true =>
      rw [e] at h
      cases h
      have : f = n := eq_of_beq e
      subst this
      exact ⟨v, look_app (r := []) (fun z hz => hn (List.of_mem_zip (List.mem_reverse.mp hz)).1), r1⟩
    | false =>
      rw [e] at h
      obtain ⟨u, h1, h2⟩ := look_rev nd r2 h
      exact ⟨u, look_app' (beq_eq_false_iff_ne.mp e) h1, h2⟩
theorem Xat_mk {G : Hp} {d : Addr} {names : List Str} {vs : List V} {xs : List Xv} {cls : Str} (nd : names.Nodup) (hd : G d = some (.xd (names.zip vs).reverse)) (r : Paired (rX.r G) vs xs) : Xat G ⟨cls, names.zip xs⟩ d :=
  ⟨_, hd, fun f x h => look_rev nd r h⟩
end Sim

/-! a class made whose __init__ may raise; isinstance of whatever was caught; tables of exception classes -/
namespace L2
open PySem PySem.Spec PyProof.Rows
section
variable {X : Cx} {CX : CXT} {k : Nat} {f C : Addr} {fd : FuncData} {ps : List Str} {sp : Sp} {E : St → XK} {x m : Str} {p pos apos : Pos} {e o : Expr} {es : List Expr} {ta : TE} {t : TA}
/-- C(e, ..), what is raised wished for at the slots -/
def tMakeT (C : Addr) (sp : Sp) (E : St → XK) (t : TA) : TE := fun σ H Q => t σ H fun vs H1 => ∀ x dx, H1 x = none → H1 dx = none → dx ≠ x → sp (.ref x :: vs) (upd (upd H1 dx (.own x)) x (.ins C dx [])) (fun v H2 => v = .non ∧ Q (.ref x) H2) (E σ)
theorem run_makeT {pins : List (Addr × Obj)} {σ : St} {H : Hp} {s : Shared} {Q : VK} {us : List Value} {vs : List V} (M : Mk X.K C f) (F : FnOk X.prog X.w X.K X.mg X.base CX k f fd ps sp) (hr : Room (k + 1) X.A) (hb : Binds X.K fd ps [])
    (hx : PassesAt CX X σ (E σ)) (I : Inv X pins σ H s) (r : Vals vs us)
    (h : ∀ x dx, H x = none → H dx = none → dx ≠ x → sp (.ref x :: vs) (upd (upd H dx (.own x)) x (.ins C dx [])) (fun v H2 => v = .non ∧ Q (.ref x) H2) (E σ)) :
    wpAny (model X.prog X.w) X.A (call (.ref C) us) (EP X pins σ Q) X.xe s := by
  have hq := h (s.heap.objs.size + 1) s.heap.objs.size (I.hok.fresh (Nat.le_succ _)) (I.hok.fresh (Nat.le_refl _)) (Nat.ne_of_lt (Nat.lt_succ_self _))
  have I2 := Inv.made (C := C) I
  have r2 : Vals (V.ref (s.heap.objs.size + 1) :: vs) (Value.ref (s.heap.objs.size + 1) :: us) := .cons rfl r
  have hl : (Value.ref (s.heap.objs.size + 1) :: us).length = ps.length := by
    have e := r2.length
    rw [F.len _ _ _ _ hq] at e
    exact e.symm
  have b := hb s (Value.ref (s.heap.objs.size + 1) :: us) I.kIn (by rw [List.append_nil]; exact hl)
  have b2 := hb _ (Value.ref (s.heap.objs.size + 1) :: us) I2.kIn (by rw [List.append_nil]; exact hl)
  rw [List.append_nil] at b2
  refine wpAny_call (make_map (f := f) I.kIn M.makes M.init (beq_iff_eq.mp M.fn) (codeAny_mono (F.run _ X.stack _ _ ⟨Value.ref (s.heap.objs.size + 1) :: us, []⟩ (Value.ref (s.heap.objs.size + 1) :: us) _ _ (E σ) (hr.make C us [])
    (I2.env0.make C us []) b2 r2 hq) fun r s' hq' => ?_))
  cases r with
  | error e => exact hx pins _ _ e s' I2 hq'
  | ok fl =>
    cases fl with
    | ret u =>
      obtain ⟨v, H', I3, rv, ev, q3⟩ := I2.after hq'
      subst ev
      exact ⟨rv, ⟨V.ref (s.heap.objs.size + 1), H', I3, rfl, q3⟩⟩
    | next => exact False.elim hq'
    | brk => exact False.elim hq'
    | cont => exact False.elim hq'
theorem pe_makeT (M : Mk X.K C f) (F : FnOk X.prog X.w X.K X.mg X.base CX k f fd ps sp) (hr : Room (k + 1) X.A) (hg : Gl X x) (hm : X.mg x = some (.ref C)) (hb : Binds X.K fd ps []) (hx : ∀ σ, PassesAt CX X σ (E σ))
    (ha : PA X (e :: es) t) (hdb : (x == ("__debug__" : Str)) = false := by decide) (he : starEach (e :: es) X.env = (false, eval e X.env) :: starEach es X.env := by rfl) (hpl : (backTo pos (starEach es X.env)).any (·.1) = false := by rfl) :
    PE X (.Call (.Name x p) (e :: es) [] pos) (tMakeT C sp E t) := by
  refine ⟨fun pins s σ H Q I h => ?_⟩
  refine wpAny_Call_Name_kw (ld_glob I hg hm ?_ hdb)
  refine PySem.W.callWith_K (h₀ := X.base) I.ok.mod.kin M.kp (thn (ha.run pos pins s σ H _ I h) fun us s1 ⟨vs, H1, I1, r, q⟩ => ⟨I1.kIn, ?_⟩) he hpl
  exact run_makeT M F hr hb (hx σ) I1 r q
/-- nothing is raised here -/
theorem takes_no : Takes X (fun _ _ _ _ => False) := fun _ _ ⟨_, _, _, _, _, _, _, _, _, _, _, _, _, _, _, _, w⟩ => w.elim
end
/-- isinstance(e, c), e the caught exception, whatever its class -/
def rIsZ (K : PySem.W.Frag) (cls : Value) (d : Option Addr) (a : Addr) : List V → Hp → VK → Prop := fun xs H Q => ∃ (D dd : Addr) (c : V) (cv : Value) (b : Bool) (fs : List (Str × V)), cls = .ref D ∧ d = some dd ∧ ExcC K D ∧ xs = [.ref a, c] ∧ (∀ u, RelV c u → u = cv) ∧ PySem.W.kitOne K (.ref D) cv = some b ∧ H dd = some (.xd fs) ∧ Q (.bl b) H
theorem call_isZ {X : Cx} {a : Addr} {cls : Value} {d : Option Addr} {oe : Obj} {pn : List (Addr × Obj)} (hz : Zc cls d oe) (hf : ∃ vs, oe.data = .fields vs) : CallR (X.suite a ((a, oe) :: pn)) (.builtin "isinstance") (rIsZ X.K cls d a) := by
  intro pins s σ H xs us Q I r h
  obtain ⟨D, dd, c, cv, b, fs, rfl, rfl, hC, h⟩ := h
  exact call_isX hC hz hf pins s σ H xs us Q I r ⟨c, cv, b, fs, h⟩
/-- e.f, e the caught exception, whatever its class -/
def tXz (K : PySem.W.Frag) (a : Addr) (cls : Value) (d : Option Addr) (f : Str) (te : TE) : TE := fun σ H Q => te σ H fun x H1 => x = .ref a ∧ ∃ (C dd : Addr) (fs : List (Str × V)) (v : V), cls = .ref C ∧ XfC K C ∧ PySem.W.findIn K (.ref C) f = some none ∧ d = some dd ∧ H1 dd = some (.xd fs) ∧ fs.lookup f = some v ∧ Q v H1
theorem pe_xz {X : Cx} {a : Addr} {oe : Obj} {cls : Value} {d : Option Addr} {pn : List (Addr × Obj)} {e : Expr} {te : TE} {pos : Pos} {n : Str}
    (hz : Zc cls d oe) (hf : ∃ vs, oe.data = .fields vs) (he : PE (X.suite a ((a, oe) :: pn)) e te) (hb : attributeBase e n X.env (eval e X.env) = eval e X.env := by rfl) :
    PE (X.suite a ((a, oe) :: pn)) (.Attribute e n pos) (tXz X.K a cls d n te) := by
  refine ⟨fun pins s σ H Q I h => ?_⟩
  refine attr_of hb (thn (he.run pins s σ H _ I h) fun u s1 hh => ?_)
  obtain ⟨x, H1, I1, rx, ex, C, dd, fs, v, ec, T, hno, ed, ea, l, q⟩ := hh
  subst ex
  obtain rfl : u = Value.ref a := rx
  subst ec
  subst ed
  obtain ⟨ha, _⟩ := I1.pin (a, oe) (List.mem_append_left _ List.mem_cons_self)
  obtain ⟨vs, hd⟩ := hf
  have hx : ObjOk X.prog X.w H1 s1.heap dd (.xd fs) := I1.hok dd _ ea
  obtain ⟨mA, hns, hr⟩ := hx
  obtain ⟨od, ho, hl⟩ := lookIn_ns hns
  obtain ⟨u, hu, ru⟩ := RelO.some_of (v := v) (o := mA n) (by rw [← l]; exact hr n)
  have J : PySem.W.InstAt s1.heap a oe C (some od) := ⟨ha, hz.1, by unfold PySem.W.notCls; rw [hd] <;> rfl, by rw [hz.2]; exact ho⟩
  exact HandSPX.exc_get I1.kIn J T.ga T.gg T.exC (PySem.W.findObj_own T.hdC hno rfl (by rw [hl, hu])) (handed_of ru) ⟨v, H1, I1.tok _, ru, q⟩
end L2
namespace Sim
open PySem PySem.Spec PyProof.Rows L2 Evl
/-! tables: what the top's end says of the exception classes cs -/
def excCB (K : PySem.W.Frag) (D : Addr) : Bool := decide (PySem.W.findIn K (.ref D) "__getattribute__" = some (some (.builtin "BaseException.__getattribute__"))) && (decide (PySem.W.findIn K (.ref D) "__getattr__" = some none) &&
  (decide (PySem.W.subIn K (.ref D) (.type "BaseException") = some true) && (PySem.W.hasDictIn K D && (decide (PySem.W.findIn K (.ref D) "__class__" = some (some (.builtin "object.__class__"))) &&
  (decide (PySem.W.specialIn K (.builtin "object.__class__") "__get__" = some (some (.builtin "getset_descriptor.__get__"))) && (decide (PySem.W.takesIn K (.builtin "object.__class__") = some true) && decide (PySem.W.mroIn K D (.type "object") = some true)))))))
theorem excCB_ok {K : PySem.W.Frag} {D : Addr} (h : excCB K D = true) : ExcC K D := by
  obtain ⟨h1, h⟩ := He.ba h
  obtain ⟨h2, h⟩ := He.ba h
  obtain ⟨h3, h⟩ := He.ba h
  obtain ⟨h4, h⟩ := He.ba h
  obtain ⟨h5, h⟩ := He.ba h
  obtain ⟨h6, h⟩ := He.ba h
  obtain ⟨h7, h8⟩ := He.ba h
  exact ⟨of_decide_eq_true h1, of_decide_eq_true h2, of_decide_eq_true h3, h4, of_decide_eq_true h5, of_decide_eq_true h6, of_decide_eq_true h7, of_decide_eq_true h8⟩
/-- each of cs: an exception class that is told by its fields -/
def xsB (cs : List Str) (K : PySem.W.Frag) : Bool := cs.all fun C => excCB K (He.ga K C) && xfB K (He.ga K C)
/-- no attribute of these names in the classes -/
def xnB (cs : List Str) (fs : List Str) (K : PySem.W.Frag) : Bool := cs.all fun C => fs.all fun f => noB C f K
/-- for each of cs: the clause 'except D' -/
def xaB (cs : List Str) (D : Str) (b : Bool) (K : PySem.W.Frag) : Bool := cs.all fun C => exmB C D b K
def kiB (C : Str) (v : Value) (b : Bool) (K : PySem.W.Frag) : Bool := decide (PySem.W.kitOne K (.ref (He.ga K C)) v = some b)
/-- for each of cs: isinstance(e, D) -/
def xkB (cs : List Str) (D : Str) (ds : List Str) (K : PySem.W.Frag) : Bool := cs.all fun C => kiB C (.ref (He.ga K D)) (ds.contains C) K
def xkTB (cs : List Str) (D : String) (b : Bool) (K : PySem.W.Frag) : Bool := cs.all fun C => kiB C (.type D) b K
section
variable {K : PySem.W.Frag} {cs fs : List Str} {C D f : Str} {b : Bool}
theorem xs_ok (h : xsB cs K = true) (hC : cs.contains C = true) : ExcC K (He.ga K C) ∧ XfC K (He.ga K C) := by
  have := List.all_eq_true.mp h C (List.contains_iff_mem.mp hC)
  obtain ⟨h1, h2⟩ := He.ba this
  exact ⟨excCB_ok h1, xfB_ok h2⟩
theorem xn_ok (h : xnB cs fs K = true) (hC : cs.contains C = true) (hf : fs.contains f = true) : PySem.W.findIn K (.ref (He.ga K C)) f = some none :=
  noB_ok (List.all_eq_true.mp (List.all_eq_true.mp h C (List.contains_iff_mem.mp hC)) f (List.contains_iff_mem.mp hf))
theorem xa_ok (h : xaB cs D b K = true) (hC : cs.contains C = true) : PySem.W.exmOne K (.ref (He.ga K C)) (.ref (He.ga K D)) = some b := exmB_ok (List.all_eq_true.mp h C (List.contains_iff_mem.mp hC))
theorem xk_ok {ds : List Str} (h : xkB cs D ds K = true) (hC : cs.contains C = true) : PySem.W.kitOne K (.ref (He.ga K C)) (.ref (He.ga K D)) = some (ds.contains C) := of_decide_eq_true (List.all_eq_true.mp h C (List.contains_iff_mem.mp hC))
theorem xkT_ok {D : String} (h : xkTB cs D b K = true) (hC : cs.contains C = true) : PySem.W.kitOne K (.ref (He.ga K C)) (.type D) = some b := of_decide_eq_true (List.all_eq_true.mp h C (List.contains_iff_mem.mp hC))
end
theorem sumL {α β γ : Type} {f : α → Option γ} {g : β → Option γ} {e : α} {r : γ} (h : Sum.elim f g (Sum.inl e) = some r) : f e = some r := h
theorem sumR {α β γ : Type} {f : α → Option γ} {g : β → Option γ} {e : β} {r : γ} (h : Sum.elim f g (Sum.inr e) = some r) : g e = some r := h
theorem bifO {α : Type} {c : Bool} {a b : Option α} {r : α} (h : (bif c then a else b) = some r) : (c = true ∧ a = some r) ∨ (c = false ∧ b = some r) := by
  cases c with
  | true => exact Or.inl ⟨rfl, h⟩
  | false => exact Or.inr ⟨rfl, h⟩
section
variable {K : PySem.W.Frag} {σ : L2.St} {G H W G0 H0 G2 H2 : Hp} {ls : List Addr} {cs : Cs} {ta tb : TA} {to te tu : TE} {ι α β γ : Type} {A : AR ι} {R : Rep α} {S : Rep β} {T : Rep γ} {D : Ends} {l C : Addr} {ns : List Str} {fl : α → List Pd}
/-- the promise of an __init__ that may raise -/
def PXI (K : PySem.W.Frag) (C : Addr) (A : AR ι) (ns : List Str) (fl : α → List Pd) (f : ι → Option (Xn ⊕ α)) : Sp := fun vs H Q E => ∃ G x ws i r, vs = .ref x :: ws ∧ Wd G H [(x, cI C [] [])] ∧ A.r G ws i ∧ f i = some r ∧
  (∀ e, r = .inl e → ∀ d H2 G2, Fr G H G2 H2 [x] → Ex G2 H2 → Xat G2 e d → E (.ref (He.ga K e.cls)) (some d) H2) ∧
  (∀ o, r = .inr o → ∀ H2 G2, Fr G H G2 H2 [x] → Wd G2 H2 [(x, cI C ns (fl o))] → Q .non H2)
theorem ex_make {f : ι → Option (Xn ⊕ α)} {ta : TA} {mi : Option ι} {Wx : L2.St → XK} (ha : EA ta σ G W A mi) : EX K (tMakeT C (PXI K C A ns fl f) Wx ta) σ G W (rObj C ns fl) (mi >>= f) (Wx σ) := fun z hz H e e' Q qx q => by
  obtain ⟨i, hi, hz⟩ := bindS hz
  refine ha i hi H e e' _ fun vs H1 G1 u1 r1 => ?_
  intro x dx nx ndx ne
  have w1 : Wd G1 (upd (upd H1 dx (.own x)) x (.ins C dx [])) [(x, cI C [] [])] := new_ins u1.gh nx ndx ne
  have hh : ∀ {G2 H2 : Hp}, Fr G1 (upd (upd H1 dx (.own x)) x (.ins C dx [])) G2 H2 [x] → Ex H1 H2 := fun fr a o h => by
    have na : a ≠ x := ne_of_none h nx
    have nd : a ≠ dx := ne_of_none h ndx
    exact fr.fr a o (by rw [upd_ne na, upd_ne nd]; exact h) fun z => na (List.mem_singleton.mp z)
  have nn : ∀ {G2 H2 : Hp}, Fr G1 (upd (upd H1 dx (.own x)) x (.ins C dx [])) G2 H2 [x] → ∀ a, H1 a ≠ none → G1 a = none → a ≠ x ∧ G2 a = none := fun fr a h1 h2 => by
    have na : a ≠ x := fun z => by subst z; exact h1 nx
    have nd : a ≠ dx := fun z => by subst z; exact h1 ndx
    exact ⟨na, fr.nw a (by rw [upd_ne na, upd_ne nd]; exact h1) h2⟩
  refine ⟨G1, x, vs, i, z, rfl, w1, r1, hz, fun xn hx d H2 G2 fr ee xa => ?_, fun o ho H2 G2 fr w2 => ⟨rfl, ?_⟩⟩
  · exact qx xn hx d H2 G2 (u1.trans ⟨fr.gg, ee, hh fr, fun a h1 h2 => (nn fr a h1 h2).2⟩) xa
  · obtain ⟨G3, k1, k2, k3, dx', fs, k4, k5⟩ := ob_freeze w2
    exact q o ho _ H2 G3 (u1.trans ⟨fr.gg.trans k1, k2, hh fr, fun a h1 h2 => k3 a (nn fr a h1 h2).1 (nn fr a h1 h2).2⟩) ⟨x, dx', fs, rfl, k4, k5⟩
theorem Xat.upE {ls : List Addr} {e : Xn} {d : Addr} (h : Xat G e d) (x : Ex G G2) : Xat G2 e d := h.mono x
/-- what does not raise -/
theorem ex_e {m : Option α} {Wx : XK} (h : E te σ G W R m) : EX K te σ G W R (m >>= fun x => some (.inr x)) Wx := fun r hr H e e' Q qx q => by
  obtain ⟨x, hx, hr⟩ := bindS hr
  cases hr
  exact h x hx H e e' Q fun v H2 G2 u r => q x rfl v H2 G2 u r
/-- an operator, the first operand may raise -/
theorem ex_op {r : R2} {f : α → β → Option γ} {ma : Option (Xn ⊕ α)} {mb : Option β} {Wx : XK} (hr : RR r R S T f) (ha : EX K te σ G W R ma Wx) (hb : E tu σ G W S mb) :
    EX K (tOp r te tu) σ G W T (ma >>= Sum.elim (fun e => some (.inl e)) fun x => mb >>= fun y => f x y >>= fun z => some (.inr z)) Wx := fun z hz H e e' Q qx q => by
  obtain ⟨x, hx, hz⟩ := bindS hz
  refine ha x hx H e e' _ (fun xn hxn d H2 G2 u xa => ?_) fun x' hx' v H1 G1 u1 r1 => ?_
  · subst hxn
    cases hz
    exact qx xn rfl d H2 G2 u xa
  · subst hx'
    have hz : (mb >>= fun y => f x' y >>= fun z => some (.inr z)) = some z := hz
    obtain ⟨y, hy, hz⟩ := bindS hz
    obtain ⟨z', hz', hz⟩ := bindS hz
    cases hz
    refine (hb.mono u1.gg (e'.trans u1.hh)) y hy H1 u1.gh (Ex.refl _) _ fun w H2 G2 u2 r2 => ?_
    exact hr v w x' y z' H2 G2 (R.mono u2.gg r1) r2 hz' u2.gh Q fun u H3 G3 u3 r3 => q z' rfl u H3 G3 ((u1.trans u2).trans u3) r3
/-- isinstance(e, c) of the caught exception -/
theorem e_isZ {a d : Addr} {e : Xn} {i : Nat} {c : V} {cv : Value} {b : Bool} (hs : σ[i]? = some (some (.ref a))) (hx : Xat G e d) (hC : ExcC K (He.ga K e.cls)) (hcv : ∀ u, RelV c u → u = cv) (hk : PySem.W.kitOne K (.ref (He.ga K e.cls)) cv = some b) :
    E (tCB (rIsZ K (.ref (He.ga K e.cls)) (some d) a) (tCons (tVar i) (tCons (tC c) tNil))) σ G W rB (some b) := fun z hz H ee e' Q q => by
  cases hz
  obtain ⟨fs, h1, _⟩ := hx
  exact ⟨.ref a, hs, _, _, c, cv, _, fs, rfl, rfl, hC, rfl, hcv, hk, ee d _ h1, q _ H G (Up.refl ee) rfl⟩
def xI (e : Xn) (f : Str) : Option Int := e.fs.lookup f >>= fun x => match x with | .int y => some y | _ => none
def xS (e : Xn) (f : Str) : Option Str := e.fs.lookup f >>= fun x => match x with | .str y => some y | _ => none
/-- e.f of the caught exception -/
theorem e_xz {a d : Addr} {e : Xn} {f : Str} {i : Nat} (hs : σ[i]? = some (some (.ref a))) (hx : Xat G e d) (hC : XfC K (He.ga K e.cls)) (hno : PySem.W.findIn K (.ref (He.ga K e.cls)) f = some none) : E (tXz K a (.ref (He.ga K e.cls)) (some d) f (tVar i)) σ G W rI (xI e f) := fun z hz H ee e' Q q => by
  obtain ⟨x, hx1, hz⟩ := bindS hz
  cases x with
  | str _ => cases hz
  | int y =>
    cases hz
    obtain ⟨fs, h1, h2⟩ := hx
    obtain ⟨v, h3, h4⟩ := h2 f _ hx1
    exact ⟨.ref a, hs, rfl, _, d, fs, v, rfl, hC, hno, rfl, ee d _ h1, h3, q v H G (Up.refl ee) h4⟩
theorem e_xzS {a d : Addr} {e : Xn} {f : Str} {i : Nat} (hs : σ[i]? = some (some (.ref a))) (hx : Xat G e d) (hC : XfC K (He.ga K e.cls)) (hno : PySem.W.findIn K (.ref (He.ga K e.cls)) f = some none) : E (tXz K a (.ref (He.ga K e.cls)) (some d) f (tVar i)) σ G W rS (xS e f) := fun z hz H ee e' Q q => by
  obtain ⟨x, hx1, hz⟩ := bindS hz
  cases x with
  | int _ => cases hz
  | str y =>
    cases hz
    obtain ⟨fs, h1, h2⟩ := hx
    obtain ⟨v, h3, h4⟩ := h2 f _ hx1
    exact ⟨.ref a, hs, rfl, _, d, fs, v, rfl, hC, hno, rfl, ee d _ h1, h3, q v H G (Up.refl ee) h4⟩
end
end Sim

/-! properties; == of further data; list + list; index; all, any -/
namespace Sim
open PySem PySem.Spec PyProof.Rows L2 Evl
def Fp (P : Program) (w : World) (K : PySem.W.Frag) (mg : Str → Option Value) (base : Heap) (CX : CXT) (k : Nat) (c m : Str) (ps : List Str) (sp : Sp) : Prop :=
  ∃ fd, FnOk P w K mg base CX k (prG K c m) fd ps sp ∧ Binds K fd ps []
theorem fp_mk {K : PySem.W.Frag} {mg : Str → Option Value} {P : Program} {w : World} {base : Heap} {CX : CXT} {k : Nat} {c m x qual : Str} {ps : List Str} {sp : Sp} {fd : FuncData} {params : Arguments} {body : List Stmt} {scope : Scope} (F : FunD K x qual params body scope [] [] (prG K c m) fd)
    (hb : ∀ (kV doc pm : Value) (an : Option Addr) (cdv ct : Value) (us : List Value), us.length = ps.length → bindArgs (PySem.W.fnOf x qual params body scope .none kV doc pm an cdv ct) ⟨us, []⟩ = pure (ps.zip us))
    (h : FnOk P w K mg base CX k (prG K c m) fd ps sp) : Fp P w K mg base CX k c m ps sp := ⟨fd, h, F.bindsN hb⟩
/-- a static method's def -/
def Fs (P : Program) (w : World) (K : PySem.W.Frag) (mg : Str → Option Value) (base : Heap) (CX : CXT) (k : Nat) (c m : Str) (ps : List Str) (sp : Sp) : Prop :=
  ∃ fd, FnOk P w K mg base CX k (wrG K "staticmethod" c m) fd ps sp ∧ Binds K fd ps []
theorem fs_mk {K : PySem.W.Frag} {mg : Str → Option Value} {P : Program} {w : World} {base : Heap} {CX : CXT} {k : Nat} {c m x qual : Str} {ps : List Str} {sp : Sp} {fd : FuncData} {params : Arguments} {body : List Stmt} {scope : Scope} (F : FunD K x qual params body scope [] [] (wrG K "staticmethod" c m) fd)
    (hb : ∀ (kV doc pm : Value) (an : Option Addr) (cdv ct : Value) (us : List Value), us.length = ps.length → bindArgs (PySem.W.fnOf x qual params body scope .none kV doc pm an cdv ct) ⟨us, []⟩ = pure (ps.zip us))
    (h : FnOk P w K mg base CX k (wrG K "staticmethod" c m) fd ps sp) : Fs P w K mg base CX k c m ps sp := ⟨fd, h, F.bindsN hb⟩
section
variable {K : PySem.W.Frag} {σ : L2.St} {G H W G' W' : Hp} {ta : TA} {te tu : TE} {ι α β γ : Type} {A : AR ι} {R : Rep α} {S : Rep β} {T : Rep γ}
theorem dtS : Dt rS PyData.str 0 := ⟨fun h => by rw [show _ = V.str _ from h]; exact .str _, fun _ => rfl, fun _ => Nat.le_refl _, fun x y => by simp [PyData.eqv]⟩
/-- never equal to None -/
class NoN (d : α → PyData) : Prop where
  ne : ∀ x, PyData.eqv .none (d x) = false ∧ PyData.eqv (d x) .none = false
instance : NoN PyData.int := ⟨fun x => ⟨by simp [PyData.eqv], by simp [PyData.eqv]⟩⟩
instance : NoN PyData.bool := ⟨fun x => ⟨by simp [PyData.eqv], by simp [PyData.eqv]⟩⟩
instance : NoN PyData.str := ⟨fun x => ⟨by simp [PyData.eqv], by simp [PyData.eqv]⟩⟩
instance {d : α → PyData} : NoN (fun xs : List α => PyData.list (xs.map d)) := ⟨fun x => ⟨by simp [PyData.eqv], by simp [PyData.eqv]⟩⟩
instance {d : α → PyData} : NoN (fun xs : List α => PyData.tuple (xs.map d)) := ⟨fun x => ⟨by simp [PyData.eqv], by simp [PyData.eqv]⟩⟩
instance {d : α → PyData} {f : β → PyData} : NoN (fun p : α × β => PyData.tuple [d p.1, f p.2]) := ⟨fun x => ⟨by simp [PyData.eqv], by simp [PyData.eqv]⟩⟩
def dO (d : α → PyData) : Option α → PyData
  | none => .none
  | some x => d x
theorem dtO {d : α → PyData} {n : Nat} (h : Dt R d n) [N : NoN d] : Dt (rO R) (dO d) n := by
  refine ⟨fun {K H v x} r => ?_, fun x => ?_, fun x => ?_, fun x y => ?_⟩
  · cases x with
    | none => have : v = .non := r; subst this; exact .non
    | some x => exact h.dp r
  · cases x with
    | none => rfl
    | some x => exact h.lay x
  · cases x with
    | none => exact Nat.zero_le _
    | some x => exact h.dep x
  · cases x with
    | none =>
      cases y with
      | none => simp [dO, PyData.eqv]
      | some y => simp [dO, (N.ne y).1]
    | some x =>
      cases y with
      | none => simp [dO, (N.ne x).2]
      | some y => simp [dO, h.eq x y]
/-- an operator that makes a new list -/
def RRL (r : R2) (R : Rep α) (S : Rep β) (T : Rep γ) (f : α → β → Option (List γ)) : Prop :=
  ∀ v w x y z H G, R.r G v x → S.r G w y → f x y = some z → Ex G H → ∀ Q : VK, (∀ p H2 G2, H p = none → Up G H G2 H2 → Wd G2 H2 [(p, cL T z)] → Q (.ref p) H2) → r v w H Q
theorem el_op {r : R2} {f : α → β → Option (List γ)} {ma : Option α} {mb : Option β} (hr : RRL r R S T f) (ha : E te σ G W R ma) (hb : E tu σ G W S mb) :
    EL (tOp r te tu) σ G W T (ma >>= fun x => mb >>= fun y => f x y) := fun z hz H e e' Q q => by
  obtain ⟨x, hx, hz⟩ := bindS hz
  obtain ⟨y, hy, hz⟩ := bindS hz
  refine ha x hx H e e' _ fun v H1 G1 u1 r1 => ?_
  refine (hb.mono u1.gg (e'.trans u1.hh)) y hy H1 u1.gh (Ex.refl _) _ fun w H2 G2 u2 r2 => ?_
  exact hr v w x y z H2 G2 (R.mono u2.gg r1) r2 hz u2.gh Q fun p H3 G3 hp u3 w3 => q p H3 G3 (fresh_back (u1.hh.trans u2.hh) hp) ((u1.trans u2).trans u3) w3
def catM (xs ys : List α) : Option (List α) := bif decide (xs.length + ys.length < 100000) then some (xs ++ ys) else none
theorem rrl_cat : RRL rCat (rL R) (rL R) R (fun xs ys => catM xs ys) := fun v w xs ys z H G hv hw hz e Q q => by
  obtain ⟨a, vs, rfl, h2, h3⟩ := hv
  obtain ⟨b, ws, rfl, k2, k3⟩ := hw
  have hz : (bif decide (xs.length + ys.length < 100000) then some (xs ++ ys) else none) = some z := hz
  cases hl : decide (xs.length + ys.length < 100000) with
  | false => rw [hl] at hz; cases hz
  | true =>
    rw [hl] at hz
    cases hz
    exact ⟨a, b, vs, ws, rfl, rfl, e a _ h2, e b _ k2, by rw [h3.length, k3.length]; exact sz_of (Nat.le_of_lt (of_decide_eq_true hl)), fun p hp => q p _ G hp (up_new e hp) (wd_new e hp (pr_app h3 k3))⟩
/-- a method of a built-in type that changes nothing -/
def RBM (rr : V → List V → Hp → VK → Prop) (R : Rep α) (A : AR ι) (T : Rep γ) (f : α → ι → Option γ) : Prop :=
  ∀ v vs x i z H G, R.r G v x → A.r G vs i → f x i = some z → Ex G H → ∀ Q : VK, (∀ u H2 G2, Up G H G2 H2 → T.r G2 u z → Q u H2) → rr v vs H Q
theorem e_bmL {rr : V → List V → Hp → VK → Prop} {f : List α → ι → Option γ} {m : Option (List α)} {mi : Option ι} (hr : RBM rr (rL R) A T f) (h : E te σ G W (rL R) m) (ha : EA ta σ G W A mi) : E (tBM K "list" rr te ta) σ G W T (m >>= fun x => mi >>= fun i => f x i) := fun z hz H e e' Q q => by
  obtain ⟨x, hx, hz⟩ := bindS hz
  obtain ⟨i, hi, hz⟩ := bindS hz
  refine h x hx H e e' _ fun v H1 G1 u1 r1 => ?_
  refine ⟨?_, (ha.mono u1.gg (e'.trans u1.hh)) i hi H1 u1.gh (Ex.refl _) _ fun vs H2 G2 u2 r2 => ?_⟩
  · obtain ⟨a, us, rfl, h2, _⟩ := r1
    exact .inl ⟨rfl, us, Or.inl (Or.inl (u1.gh a _ h2))⟩
  · exact hr v vs x i z H2 G2 ((rL R).mono u2.gg r1) r2 hz u2.gh Q fun u H3 G3 u3 r3 => q u H3 G3 ((u1.trans u2).trans u3) r3
def idxM (eq : α → α → Bool) (xs : List α) (y : α) : Option Int := (xs.findIdx? fun z => eq z y) >>= fun j => some (j : Int)
theorem idx_ok {eq : α → α → Bool} : ∀ {xs : List α} {y : α} {j : Nat}, (xs.findIdx? fun z => eq z y) = some j → ∃ z, xs[j]? = some z ∧ eq z y = true ∧ ∀ m z', m < j → xs[m]? = some z' → eq z' y = false := fun {xs y j} h => by
  obtain ⟨h1, h2, h3⟩ := List.findIdx?_eq_some_iff_getElem.mp h
  refine ⟨xs[j], List.getElem?_eq_getElem h1, h2, fun m z' hm hz => ?_⟩
  obtain ⟨hl, e⟩ := List.getElem?_eq_some_iff.mp hz
  subst e
  have := h3 m hm
  simpa using this
theorem rbm_index {eq : α → α → Bool} (f : FlR R eq) : RBM (rIndex K) (rL R) (aC R aN) rI (fun xs i => idxM eq xs i.1) := fun v vs xs i z H G hv ha hz e Q q => by
  obtain ⟨a, us, rfl, h2, h3⟩ := hv
  obtain ⟨y, _, rfl, r, rfl⟩ := ha
  obtain ⟨j, hj, hz⟩ := bindS hz
  cases hz
  obtain ⟨z, hz, he, hb⟩ := idx_ok hj
  obtain ⟨_, h5⟩ := pr_inV f r h3
  obtain ⟨w, hw, rw_⟩ := pr_get h3 hz
  refine ⟨a, us, y, j, w, rfl, rfl, Or.inl (Or.inl (e a _ h2)), f.fl r, h5, hw, by rw [f.eq rw_ r]; exact he, fun m z' hm hz' => ?_, q _ H G (Up.refl e) rfl⟩
  obtain ⟨x', hx', r'⟩ := pr_get' h3 hz'
  rw [f.eq r' r]; exact hb m x' hm hx'
theorem pr_bls {H : Hp} : ∀ {vs : List V} {xs : List Bool}, Paired (rB.r H) vs xs → vs = xs.map V.bl
  | _, _, .nil => rfl
  | _, _, .cons r t => by rw [show _ = V.bl _ from r, pr_bls t]; rfl
theorem rc_all : RC (rAll K) (aC (rL rB) aN) rB (fun i => some (i.1.all id)) := fun vs i z H G hv hz e Q q => by
  cases hz
  obtain ⟨v, ws, rfl, ⟨a, us, rfl, h2, h3⟩, rfl⟩ := hv
  have := pr_bls h3
  subst this
  exact ⟨a, i.1, rfl, Or.inl (Or.inl (e a _ h2)), q _ H G (Up.refl e) rfl⟩
theorem rc_any : RC (rAny K) (aC (rL rB) aN) rB (fun i => some (i.1.any id)) := fun vs i z H G hv hz e Q q => by
  cases hz
  obtain ⟨v, ws, rfl, ⟨a, us, rfl, h2, h3⟩, rfl⟩ := hv
  have := pr_bls h3
  subst this
  exact ⟨a, i.1, rfl, Or.inl (Or.inl (e a _ h2)), q _ H G (Up.refl e) rfl⟩
theorem e_methB {l C : Addr} {ns : List Str} {fl : α → List Pd} {to : TE} {κ : Type} {B : Rep κ} {m : Option α} {mi : Option ι} {me : Str} {ad : α × ι → Addr} {f : List κ → α × ι → Option γ} {ys : List κ} {X : XK} (h : E to σ G W (rObj C ns fl) m) (ha : EA ta σ G W A mi) (L : Lent G W l B ys) (hi : ns.contains me = false) (hl : ∀ o i, mi = some i → ad (o, i) = l) :
    E (tMeth C me (PB (aC (rObj C ns fl) A) ad B T f) [] X to ta) σ G W T (m >>= fun o => mi >>= fun i => f ys (o, i)) := fun z hz H e e' Q q => by
  obtain ⟨x, hx, hz⟩ := bindS hz
  obtain ⟨y, hy, hz⟩ := bindS hz
  refine h x hx H e e' _ fun v H1 G1 u r => ?_
  obtain ⟨a, dx, fs, rfl, h2, h3⟩ := r
  refine ⟨a, dx, fs, rfl, u.gh a _ h2, look_no h3.1 hi, ?_⟩
  refine (ha.mono u.gg (e'.trans u.hh)) y hy H1 u.gh (Ex.refl _) _ fun vs H3 G3 u3 r3 => ?_
  rw [List.append_nil]
  have := hl x y hy
  subst this
  exact ⟨G3, (x, y), ys, z, u3.gh, ⟨.ref a, vs, rfl, ⟨a, dx, fs, rfl, u3.gg a _ h2, h3.mono u3.gg⟩, r3⟩, L.up e' (u.trans u3), hz, fun v H4 G4 u4 r4 => q v H4 G4 ((u.trans u3).trans u4) r4⟩
end
end Sim

/-! operators of own classes: ==, len, in, binary and unary ones -/
namespace L2
open PySem PySem.Spec PyProof.Rows
section
variable {X : Cx} {CX : CXT} {k : Nat} {f C : Addr} {fd : FuncData} {ps : List Str} {sp : Sp} {pins : List (Addr × Obj)} {σ : St} {H : Hp} {s : Shared} {ta tb : TE}
theorem rel_ni {v : V} {u : Value} (r : RelV v u) : u ≠ .notImplemented := by
  rintro rfl
  cases v <;> first | (cases r; done) | (obtain ⟨_, r⟩ := r; cases r)
/-- a special method runs -/
theorem run_sp {A : Around} {Q : VK} {us : List Value} {vs : List V} {E : XK} (F : FnOk X.prog X.w X.K X.mg X.base CX k f fd ps sp) (hr : Room k A) (hfr : A.frames = X.A.frames) (hb : Binds X.K fd ps []) (hx : PassesAt CX X σ E)
    (I : Inv X pins σ H s) (r : Vals vs us) (h : sp vs H Q E) : wpAny (model X.prog X.w) A (call (.ref f) us) (EP X pins σ Q) X.xe s := by
  have hl : us.length = ps.length := by rw [← r.length]; exact F.len _ _ _ _ h
  have b := hb s us I.kIn (by rw [List.append_nil]; exact hl)
  rw [List.append_nil] at b
  have e := I.env0
  have e0 : Env0 X.prog X.w X.K X.mg X.base A X.stack s H := ⟨by rw [hfr]; exact e.frames, e.mod, e.bs, e.bsz, e.funs, e.frf, e.hok, e.bare⟩
  refine wpAny_call (codeAny_mono (F.run A X.stack s H ⟨us, []⟩ us vs Q E hr e0 b r h) fun r s' hq => ?_)
  cases r with
  | error e => exact hx pins H s e s' I hq
  | ok fl =>
    cases fl with
    | ret u => exact I.after hq
    | next => exact False.elim hq
    | brk => exact False.elim hq
    | cont => exact False.elim hq
theorem passAt0 {E : XK} : PassesAt CX0 X σ E := fun _ _ _ _ _ _ h => h.elim
/-- what stands right of an own comparison: no instance of a subclass -/
def NFst (K : PySem.W.Frag) (C : Addr) (H : Hp) (y : V) : Prop := (∃ b dy gs, y = .ref b ∧ H b = some (.ins C dy gs)) ∨ ∃ t, TyX K H y t ∧ PySem.W.subIn K t (.ref C) = some false
theorem NFst.looks {y : V} {u : Value} (h : NFst X.K C H y) (I : Inv X pins σ H s) (ry : RelV y u) : ∃ tb, PySem.W.Looks (model X.prog X.w) s.heap (typeOf u) tb ∧ PySem.W.notFirst X.K C tb = true := by
  rcases h with ⟨b, dy, gs, rfl, hb⟩ | ⟨t, ty, hs⟩
  · cases ry
    obtain ⟨mB, J', _⟩ := ins_get I.hok hb
    obtain ⟨od', J', _⟩ := J'.look
    exact ⟨.ref C, J'.type, by simp [PySem.W.notFirst]⟩
  · obtain ⟨P, Z, hp, _⟩ := kit_of I ry ty
    exact ⟨t, Z.ty _ _ I.kIn hp, by simp [PySem.W.notFirst, hs]⟩
def rEqO (K : PySem.W.Frag) (C : Addr) (sp : Sp) : R2 := fun x y H Q => ∃ a dx fs, x = .ref a ∧ H a = some (.ins C dx fs) ∧ NFst K C H y ∧ sp [.ref a, y] H Q E0
theorem back_ok {v : Value} {Q : Value → Shared → Prop} {s' : Shared} (h : v ≠ .notImplemented) (q : Q v s') : PySem.W.CmpBack Q v s' := by
  cases v <;> first | exact absurd rfl h | exact q
theorem op_eqO (F : FnOk X.prog X.w X.K X.mg X.base CX0 k f fd ps sp) (hr : Room k X.A) (M : Meth X.K C "__eq__" f) (hb : Binds X.K fd ps []) : OpR X (compareOp .Eq) (rEqO X.K C sp) := by
  intro pins s σ H x y v u Q I rx ry h
  obtain ⟨a, dx, fs, rfl, ha, hn, q⟩ := h
  cases rx
  obtain ⟨mA, J, _⟩ := ins_get I.hok ha
  obtain ⟨od, J, _⟩ := J.look
  obtain ⟨tb, lk, nf⟩ := hn.looks I ry
  obtain ⟨m, hF⟩ := I.fr
  show wpAny (model X.prog X.w) X.A (richCompare .Eq (.ref a) u) (EP X pins σ Q) X.xe s
  refine PySem.W.cmp_K (op := .Eq) (tb := tb) hr.units0 hF I.ok.mod.kin J lk nf M.at_ M.fn ?_
  refine wpAny_mono (run_sp (us := [.ref a, u]) (vs := [.ref a, y]) F hr rfl hb passAt0 I (.cons rfl (.cons ry .nil)) q) (fun v s' hv => ?_) fun _ _ z => z
  obtain ⟨z, H', I', rz, qz⟩ := hv
  exact back_ok (rel_ni rz) ⟨z, H', I', rz, qz⟩
def rLenO (C : Addr) (sp : Sp) : List V → Hp → VK → Prop := fun xs H Q => ∃ a dx fs, xs = [.ref a] ∧ H a = some (.ins C dx fs) ∧ sp [.ref a] H (fun v H' => ∃ n : Int, v = .int n ∧ 0 ≤ n ∧ n < 2 ^ 63 ∧ Q v H') E0
theorem call_lenO (F : FnOk X.prog X.w X.K X.mg X.base CX0 k f fd ps sp) (hr : Room (k + 1) X.A) (M : Meth X.K C "__len__" f) (hb : Binds X.K fd ps []) : CallR X (.builtin "len") (rLenO C sp) := by
  intro pins s σ H xs us Q I r h
  obtain ⟨a, dx, fs, rfl, ha, q⟩ := h
  cases r with
  | cons rx rr =>
    cases rr
    cases rx
    obtain ⟨mA, J, _⟩ := ins_get I.hok ha
    obtain ⟨od, J, _⟩ := J.look
    obtain ⟨m, hF⟩ := I.fr
    refine PySem.W.len_K hF I.ok.mod.kin J M.at_ M.fn ?_
    refine wpAny_mono (run_sp (us := [.ref a]) (vs := [.ref a]) F hr.in1 rfl hb passAt0 I (.cons rfl .nil) q) (fun v s' hv => ?_) fun _ _ z => z
    obtain ⟨z, H', I', rz, n, rfl, h0, h1, qz⟩ := hv
    obtain ⟨t, rfl⟩ : ∃ t, v = .int n t := rz
    exact ⟨⟨h0, h1⟩, .int n, H', I'.tok _, ⟨_, rfl⟩, qz⟩
def rInO (C : Addr) (sp : Sp) (g : Bool → Bool) : R2 := fun x y H Q => ∃ a dx fs, y = .ref a ∧ H a = some (.ins C dx fs) ∧ sp [.ref a, x] H (fun v H' => ∃ b, v = .bl b ∧ Q (.bl (g b)) H') E0
theorem op_inO (F : FnOk X.prog X.w X.K X.mg X.base CX0 k f fd ps sp) (hr : Room k X.A) (M : Meth X.K C "__contains__" f) (hb : Binds X.K fd ps []) : OpR X (compareOp .In) (rInO C sp id) := by
  intro pins s σ H x y v u Q I rx ry h
  obtain ⟨a, dx, fs, rfl, ha, q⟩ := h
  cases ry
  obtain ⟨mA, J, _⟩ := ins_get I.hok ha
  obtain ⟨od, J, _⟩ := J.look
  obtain ⟨m, hF⟩ := I.fr
  refine PySem.W.in_K hF I.ok.mod.kin J M.at_ M.fn ?_
  refine wpAny_mono (run_sp (us := [.ref a, v]) (vs := [.ref a, x]) F hr rfl hb passAt0 I (.cons rfl (.cons rx .nil)) q) (fun v s' hv => ?_) fun _ _ z => z
  obtain ⟨z, H', I', rz, b, rfl, qz⟩ := hv
  cases rz
  exact wpAny_pure ⟨.bl b, H', I', rfl, qz⟩
theorem op_notInO (F : FnOk X.prog X.w X.K X.mg X.base CX0 k f fd ps sp) (hr : Room k X.A) (M : Meth X.K C "__contains__" f) (hb : Binds X.K fd ps []) : OpR X (compareOp .NotIn) (rInO C sp (!·)) := by
  intro pins s σ H x y v u Q I rx ry h
  obtain ⟨a, dx, fs, rfl, ha, q⟩ := h
  cases ry
  obtain ⟨mA, J, _⟩ := ins_get I.hok ha
  obtain ⟨od, J, _⟩ := J.look
  obtain ⟨m, hF⟩ := I.fr
  refine PySem.W.notIn_K hF I.ok.mod.kin J M.at_ M.fn ?_
  refine wpAny_mono (run_sp (us := [.ref a, v]) (vs := [.ref a, x]) F hr rfl hb passAt0 I (.cons rfl (.cons rx .nil)) q) (fun v s' hv => ?_) fun _ _ z => z
  obtain ⟨z, H', I', rz, b, rfl, qz⟩ := hv
  cases rz
  exact wpAny_pure ⟨.bl (!b), H', I', rfl, qz⟩
/-- a * b, a + b, a | b, a & b of an own class, what is raised wished for at the slots -/
def tOpX (C : Addr) (sp : Sp) (E : St → XK) (ta tb : TE) : TE := fun σ H Q => ta σ H fun x H1 => tb σ H1 fun y H2 => ∃ a dx fs b dy gs, x = .ref a ∧ H2 a = some (.ins C dx fs) ∧ y = .ref b ∧ H2 b = some (.ins C dy gs) ∧ sp [.ref a, .ref b] H2 Q (E σ)
theorem pe_opX {op : Operator} {E : St → XK} {a b : Expr} {pos : Pos} {nm : Str} (hn : nm = PySem.dunder op.info.2) (F : FnOk X.prog X.w X.K X.mg X.base CX k f fd ps sp) (hr : Room k X.A) (M : Meth X.K C nm f) (hsf : PySem.W.selfFirst X.K C = true) (hb : Binds X.K fd ps []) (hx : ∀ σ, PassesAt CX X σ (E σ))
    (pa : PE X a ta) (pb : PE X b tb) : PE X (.BinOp a op b pos) (tOpX C sp E ta tb) := by
  subst hn
  refine ⟨fun pins s σ H Q I h => ?_⟩
  refine wpAny_BinOp (binT (R := fun x y H2 => ∃ a dx fs b dy gs, x = .ref a ∧ H2 a = some (.ins C dx fs) ∧ y = .ref b ∧ H2 b = some (.ins C dy gs) ∧ sp [.ref a, .ref b] H2 Q (E σ)) pa pb I h fun v u s2 x y H2 I2 rx ry q => ?_)
  obtain ⟨a, dx, fs, b, dy, gs, rfl, ha, rfl, hb', q⟩ := q
  cases rx
  cases ry
  obtain ⟨mA, J, _⟩ := ins_get I2.hok ha
  obtain ⟨od, J, _⟩ := J.look
  obtain ⟨mB, J', _⟩ := ins_get I2.hok hb'
  obtain ⟨od', J', _⟩ := J'.look
  obtain ⟨m, hF⟩ := I2.fr
  refine PySem.W.binop_K hF I2.ok.mod.kin J J'.type hsf M.at_ M.fn ?_
  refine wpAny_mono (run_sp (us := [.ref a, .ref b]) (vs := [.ref a, .ref b]) F hr rfl hb (hx σ) I2 (.cons rfl (.cons rfl .nil)) q) (fun v s' hv => ?_) fun _ _ z => z
  obtain ⟨z, H', I', rz, qz⟩ := hv
  exact back_ok (rel_ni rz) ⟨z, H', I', rz, qz⟩
/-- ~a of an own class -/
def tUnX (C : Addr) (sp : Sp) (E : St → XK) (ta : TE) : TE := fun σ H Q => ta σ H fun x H1 => ∃ a dx fs, x = .ref a ∧ H1 a = some (.ins C dx fs) ∧ sp [.ref a] H1 Q (E σ)
theorem pe_invX {E : St → XK} {a : Expr} {pos : Pos} (F : FnOk X.prog X.w X.K X.mg X.base CX k f fd ps sp) (hr : Room k X.A) (M : Meth X.K C "__invert__" f) (hb : Binds X.K fd ps []) (hx : ∀ σ, PassesAt CX X σ (E σ))
    (pa : PE X a ta) : PE X (.UnaryOp .Invert a pos) (tUnX C sp E ta) := by
  refine ⟨fun pins s σ H Q I h => ?_⟩
  refine UnaryOp_ (thn (pa.run pins s σ H _ I h) fun v s1 ⟨x, H1, I1, r1, a, dx, fs, ex, ha, q⟩ => ?_)
  subst ex
  cases r1
  obtain ⟨mA, J, _⟩ := ins_get I1.hok ha
  obtain ⟨od, J, _⟩ := J.look
  unfold unaryOp
  refine wpAny_holding ?_
  dsimp only
  refine (congrArg (fun z => wpAny (model X.prog X.w) X.A z (EP X pins σ Q) X.xe s1) (if_neg (show ¬ ((UnaryOp.Invert == UnaryOp.Not) = true) by decide))).mpr ?_
  refine wpAny_bind (m := callSpecial? (.ref a) _ []) (PySem.W.special_fn I1.kIn J M.at_ (beq_iff_eq.mp M.fn) ?_)
  refine wpAny_mono (run_sp (us := [.ref a]) (vs := [.ref a]) F hr rfl hb (hx σ) I1 (.cons rfl .nil) q) (fun v s' hv => ?_) fun _ _ z => z
  obtain ⟨z, H', I', rz, qz⟩ := hv
  exact wpAny_pure ⟨z, H', I', rz, qz⟩
end
end L2

/-! operators of own classes: what they read as -/
namespace Sim
open PySem PySem.Spec PyProof.Rows L2 Evl
section
variable {K : PySem.W.Frag} {σ : L2.St} {G H W : Hp} {ta tb te : TE} {tA : TA} {α β γ ι : Type} {R : Rep α} {S : Rep β} {T : Rep γ} {A : AR ι} {C : Addr} {ns : List Str} {fl : α → List Pd}
/-- never an instance of a subclass of C -/
def Rep.NS (S : Rep β) (K : PySem.W.Frag) (C : Addr) : Prop := ∀ {H : Hp} {v : V} {y : β}, S.r H v y → NFst K C H v
theorem nsObj : (rObj C ns fl).NS K C := fun ⟨a, dx, fs, h, h2, _⟩ => .inl ⟨a, dx, fs, h, h2⟩
theorem nsTy {n : String} (k : KTy S n) (h : PySem.W.subIn K (.type n) (.ref C) = some false) : S.NS K C := fun r => .inr ⟨_, k r, h⟩
theorem rr_eqO {f : α → β → Option Bool} (hS : S.NS K C) : RR (rEqO K C (PF (aC (rObj C ns fl) (aC S aN)) rB fun i => f i.1 i.2.1)) (rObj C ns fl) S rB f := fun v w x y z H G hv hw hz e Q q => by
  obtain ⟨a, dx, fs, rfl, h2, h3⟩ := hv
  exact ⟨a, dx, fs, rfl, e a _ h2, hS (S.mono e hw), G, (x, y, ()), z, e, ⟨_, _, rfl, ⟨a, dx, fs, rfl, h2, h3⟩, _, _, rfl, hw, rfl⟩, hz, fun u H2 G2 up r => q u H2 G2 up r⟩
def lenM (n : Int) : Option Int := bif decide (0 ≤ n ∧ n < 2 ^ 63) then some n else none
theorem rc_lenO {f : α → Option Int} : RC (rLenO C (PF (aC (rObj C ns fl) aN) rI fun i => f i.1)) (aC (rObj C ns fl) aN) rI (fun i => f i.1 >>= lenM) := fun vs i z H G hv hz e Q q => by
  obtain ⟨n, hn, hz⟩ := bindS hz
  unfold lenM at hz
  cases hb : decide (0 ≤ n ∧ n < 2 ^ 63) with
  | false => rw [hb] at hz; cases hz
  | true =>
    rw [hb] at hz
    cases hz
    obtain ⟨b1, b2⟩ := of_decide_eq_true hb
    obtain ⟨v, ws, rfl, ⟨a, dx, fs, rfl, h2, h3⟩, rfl⟩ := hv
    exact ⟨a, dx, fs, rfl, e a _ h2, G, (i.1, ()), _, e, ⟨_, _, rfl, ⟨a, dx, fs, rfl, h2, h3⟩, rfl⟩, hn, fun u H2 G2 up r => ⟨_, r, b1, b2, q u H2 G2 up r⟩⟩
theorem rr_inO {f : α → β → Option Bool} {g : Bool → Bool} : RR (rInO C (PF (aC (rObj C ns fl) (aC S aN)) rB fun i => f i.1 i.2.1) g) S (rObj C ns fl) rB (fun y x => f x y >>= fun b => some (g b)) := fun v w y x z H G hv hw hz e Q q => by
  obtain ⟨b, hb, hz⟩ := bindS hz
  cases hz
  obtain ⟨a, dx, fs, rfl, h2, h3⟩ := hw
  exact ⟨a, dx, fs, rfl, e a _ h2, G, (x, y, ()), b, e, ⟨_, _, rfl, ⟨a, dx, fs, rfl, h2, h3⟩, _, _, rfl, hv, rfl⟩, hb, fun u H2 G2 up r => by cases r; exact ⟨b, rfl, q _ H2 G2 up rfl⟩⟩
theorem ex_opX {f : α → α → Option (Xn ⊕ γ)} {ma mb : Option α} {Wx : L2.St → XK} (ha : E ta σ G W (rObj C ns fl) ma) (hb : E tb σ G W (rObj C ns fl) mb) :
    EX K (tOpX C (PX K (aC (rObj C ns fl) (aC (rObj C ns fl) aN)) T fun i => f i.1 i.2.1) Wx ta tb) σ G W T (ma >>= fun x => mb >>= fun y => f x y) (Wx σ) := fun z hz H e e' Q qx q => by
  obtain ⟨x, hx, hz⟩ := bindS hz
  obtain ⟨y, hy, hz⟩ := bindS hz
  refine ha x hx H e e' _ fun v H1 G1 u1 r1 => ?_
  refine (hb.mono u1.gg (e'.trans u1.hh)) y hy H1 u1.gh (Ex.refl _) _ fun w H2 G2 u2 r2 => ?_
  obtain ⟨a, dx, fs, rfl, h2, h3⟩ := (rObj C ns fl).mono u2.gg r1
  obtain ⟨b, dy, gs, rfl, k2, k3⟩ := r2
  have u := u1.trans u2
  exact ⟨a, dx, fs, b, dy, gs, rfl, u2.gh a _ h2, rfl, u2.gh b _ k2, G2, (x, y, ()), z, u2.gh, ⟨_, _, rfl, ⟨a, dx, fs, rfl, h2, h3⟩, _, _, rfl, ⟨b, dy, gs, rfl, k2, k3⟩, rfl⟩, hz,
    fun e he d H4 G4 u4 r4 => qx e he d H4 G4 (u.trans u4) r4, fun o ho v H4 G4 u4 r4 => q o ho v H4 G4 (u.trans u4) r4⟩
theorem e_opX {f : α → α → Option γ} {ma mb : Option α} {Wx : L2.St → XK} (ha : E ta σ G W (rObj C ns fl) ma) (hb : E tb σ G W (rObj C ns fl) mb) :
    E (tOpX C (PF (aC (rObj C ns fl) (aC (rObj C ns fl) aN)) T fun i => f i.1 i.2.1) Wx ta tb) σ G W T (ma >>= fun x => mb >>= fun y => f x y) := fun z hz H e e' Q q => by
  obtain ⟨x, hx, hz⟩ := bindS hz
  obtain ⟨y, hy, hz⟩ := bindS hz
  refine ha x hx H e e' _ fun v H1 G1 u1 r1 => ?_
  refine (hb.mono u1.gg (e'.trans u1.hh)) y hy H1 u1.gh (Ex.refl _) _ fun w H2 G2 u2 r2 => ?_
  obtain ⟨a, dx, fs, rfl, h2, h3⟩ := (rObj C ns fl).mono u2.gg r1
  obtain ⟨b, dy, gs, rfl, k2, k3⟩ := r2
  have u := u1.trans u2
  exact ⟨a, dx, fs, b, dy, gs, rfl, u2.gh a _ h2, rfl, u2.gh b _ k2, G2, (x, y, ()), z, u2.gh, ⟨_, _, rfl, ⟨a, dx, fs, rfl, h2, h3⟩, _, _, rfl, ⟨b, dy, gs, rfl, k2, k3⟩, rfl⟩, hz, fun v H4 G4 u4 r4 => q v H4 G4 (u.trans u4) r4⟩
theorem e_unX {f : α → Option γ} {ma : Option α} {Wx : L2.St → XK} (ha : E ta σ G W (rObj C ns fl) ma) : E (tUnX C (PF (aC (rObj C ns fl) aN) T fun i => f i.1) Wx ta) σ G W T (ma >>= fun x => f x) := fun z hz H e e' Q q => by
  obtain ⟨x, hx, hz⟩ := bindS hz
  refine ha x hx H e e' _ fun v H1 G1 u1 r1 => ?_
  obtain ⟨a, dx, fs, rfl, h2, h3⟩ := r1
  exact ⟨a, dx, fs, rfl, u1.gh a _ h2, G1, (x, ()), z, u1.gh, ⟨_, _, rfl, ⟨a, dx, fs, rfl, h2, h3⟩, rfl⟩, hz, fun v H4 G4 u4 r4 => q v H4 G4 (u1.trans u4) r4⟩
/-- isinstance of an own class's instance -/
def tyiB (C : Str) (K : PySem.W.Frag) : Bool := decide (PySem.W.findIn K (.ref (He.ga K C)) "__class__" = some (some (.builtin "object.__class__"))) && (decide (PySem.W.specialIn K (.builtin "object.__class__") "__get__" = some (some (.builtin "getset_descriptor.__get__"))) &&
  (decide (PySem.W.takesIn K (.builtin "object.__class__") = some true) && decide (PySem.W.mroIn K (He.ga K C) (.type "object") = some true)))
theorem tyi_of {C : Str} {a dx : Addr} {fs : List (Str × V)} (h : tyiB C K = true) (cl : Cls K (He.ga K C)) (e : H a = some (.ins (He.ga K C) dx fs)) : TyOf K H (.ref a) (.ref (He.ga K C)) := by
  obtain ⟨h1, h⟩ := He.ba h
  obtain ⟨h2, h⟩ := He.ba h
  obtain ⟨h3, h4⟩ := He.ba h
  exact .ins e cl (of_decide_eq_true h1) (of_decide_eq_true h2) (of_decide_eq_true h3) (of_decide_eq_true h4)
theorem e_isiO {C D : Str} {ns : List Str} {fl : α → List Pd} {m : Option α} {b : Bool} (h : E te σ G W (rObj (He.ga K C) ns fl) m) (ht : tyiB C K = true) (cl : Cls K (He.ga K C)) (hk : PySem.W.kitOne K (.ref (He.ga K C)) (.ref (He.ga K D)) = some b) :
    E (tCB (rIsi K) (tCons te (tCons (tC (.ref (He.ga K D))) tNil))) σ G W rB (m >>= fun _ => some b) := fun z hz H e e' Q q => by
  obtain ⟨x, hx, hz⟩ := bindS hz
  cases hz
  refine h x hx H e e' _ fun v H1 G1 u r => ?_
  obtain ⟨a, dx, fs, rfl, h2, _⟩ := r
  exact ⟨.ref a, .ref (He.ga K D), .ref (He.ga K C), .ref (He.ga K D), _, rfl, .own _, .base (tyi_of ht cl (u.gh a _ h2)), hk, q _ H1 G1 u rfl⟩
/-- isinstance of other data: never -/
theorem e_isiN {D : Str} {m : Option β} {n : String} {b : Bool} (h : E te σ G W S m) (k : KTy S n) (hk : PySem.W.kitOne K (.type n) (.ref (He.ga K D)) = some b) :
    E (tCB (rIsi K) (tCons te (tCons (tC (.ref (He.ga K D))) tNil))) σ G W rB (m >>= fun _ => some b) := fun z hz H e e' Q q => by
  obtain ⟨x, hx, hz⟩ := bindS hz
  cases hz
  refine h x hx H e e' _ fun v H1 G1 u r => ?_
  exact ⟨v, .ref (He.ga K D), .type n, .ref (He.ga K D), _, rfl, .own _, k (S.mono u.gh r), hk, q _ H1 G1 u rfl⟩
def kitNB (n : String) (D : Str) (b : Bool) (K : PySem.W.Frag) : Bool := decide (PySem.W.kitOne K (.type n) (.ref (He.ga K D)) = some b)
theorem kitN_ok {n : String} {D : Str} {b : Bool} (h : kitNB n D b K = true) : PySem.W.kitOne K (.type n) (.ref (He.ga K D)) = some b := of_decide_eq_true h
def kiOB (C D : Str) (b : Bool) (K : PySem.W.Frag) : Bool := kiB C (.ref (He.ga K D)) b K
theorem ki_ok {C D : Str} {b : Bool} (h : kiOB C D b K = true) : PySem.W.kitOne K (.ref (He.ga K C)) (.ref (He.ga K D)) = some b := of_decide_eq_true h
def subNB (n : String) (D : Str) (K : PySem.W.Frag) : Bool := decide (PySem.W.subIn K (.type n) (.ref (He.ga K D)) = some false)
theorem subN_ok {n : String} {D : Str} (h : subNB n D K = true) : PySem.W.subIn K (.type n) (.ref (He.ga K D)) = some false := of_decide_eq_true h
def sfB (C : Str) (K : PySem.W.Frag) : Bool := PySem.W.selfFirst K (He.ga K C)
end
end Sim

/-! what is walked, told in general; comprehensions with two clauses -/
namespace Sim
open PySem L2 Evl
section
variable {K : PySem.W.Frag} {σ : L2.St} {G H W G' W' : Hp} {te tl : TE} {tt tt1 : TT} {α β γ δ : Type} {R : Rep α} {S : Rep β} {T : Rep γ} {wi wi1 : TI} {g g1 : TG}
/-- J walks xs, whatever happens above G1 -/
def Goes (J : It) (G1 : Hp) (R : Rep α) (xs : List α) : Prop :=
  ∀ i H, Ex G1 H → (i = xs.length → J.stop i H) ∧ ∀ x, xs[i]? = some x → J.go i H ∧ ∀ v H', J.yld i H v H' → H' = H ∧ R.r G1 v x
def Src (wi : TI) (σ : L2.St) (G W : Hp) (R : Rep α) (m : Option (List α)) : Prop :=
  ∀ xs, m = some xs → ∀ H, Ex G H → Ex W H → ∀ k : It → Hp → Prop, (∀ J H1 G1, Up G H G1 H1 → Goes J G1 R xs → k J H1) → wi σ H k
theorem src_list {m : Option (List α)} (h : E tl σ G W (rL R) m) : Src (iList K tl) σ G W R m := fun xs hx H e e' k q =>
  h xs hx H e e' _ fun v H1 G1 u r => by
    obtain ⟨a, us, rfl, h2, h3⟩ := r
    refine ⟨a, rfl, ⟨us, Or.inl (Or.inl (u.gh a _ h2))⟩, q _ H1 G1 u fun i H' e1 => ⟨fun hi => ?_, fun x hx => ?_⟩⟩
    · subst hi; exact ⟨us, Or.inl (Or.inl (e1 a _ h2)), by rw [h3.length]; exact Nat.le_refl _⟩
    · obtain ⟨v, hv, r⟩ := pr_get h3 hx
      refine ⟨⟨us, v, Or.inl (Or.inl (e1 a _ h2)), hv⟩, fun w H2 y => ?_⟩
      obtain ⟨rfl, y⟩ := y
      have := y us (Or.inl (Or.inl (e1 a _ h2)))
      rw [hv] at this
      cases this
      exact ⟨rfl, r⟩
theorem src_tup {m : Option (List α)} (h : E tl σ G W (rT R) m) : Src (iTup K tl) σ G W R m := fun xs hx H e e' k q =>
  h xs hx H e e' _ fun v H1 G1 u r => by
    obtain ⟨a, us, rfl, h2, h3⟩ := r
    refine ⟨a, rfl, ⟨us, Or.inl (Or.inl (u.gh a _ h2))⟩, q _ H1 G1 u fun i H' e1 => ⟨fun hi => ?_, fun x hx => ?_⟩⟩
    · subst hi; exact ⟨us, Or.inl (Or.inl (e1 a _ h2)), by rw [h3.length]; exact Nat.le_refl _⟩
    · obtain ⟨v, hv, r⟩ := pr_get h3 hx
      refine ⟨⟨us, v, Or.inl (Or.inl (e1 a _ h2)), hv⟩, fun w H2 y => ?_⟩
      obtain ⟨rfl, y⟩ := y
      have := y us (Or.inl (Or.inl (e1 a _ h2)))
      rw [hv] at this
      cases this
      exact ⟨rfl, r⟩
theorem goes_rng {lo hi : Int} {G1 : Hp} : Goes (Itr lo (hi - lo).toNat) G1 rI (rng lo hi) := fun i H' e1 => ⟨fun h => by rw [rng_len] at h; subst h; exact Nat.le_refl _, fun x hx => by
  have hl := (List.getElem?_eq_some_iff.mp hx).1
  rw [rng_len] at hl
  refine ⟨hl, fun v H2 y => ?_⟩
  obtain ⟨rfl, rfl⟩ := y
  have := rng_get hl
  rw [this] at hx
  cases hx
  exact ⟨rfl, rfl⟩⟩
theorem src_rng1 {ta : TA} {m : Option (Int × Unit)} (h : EA ta σ G W (aC rI aN) m) : Src (iRng1 ta) σ G W rI (m >>= fun n => rngM 0 n.1) := fun xs hx H e e' k q => by
  obtain ⟨n, hn, hx⟩ := bindS hx
  refine h n hn H e e' _ fun v H1 G1 u r => ?_
  obtain ⟨v1, ws, rfl, e1, rfl⟩ := r
  cases e1
  unfold rngM at hx
  split at hx
  · rename_i hb
    cases hx
    refine ⟨n.1, rfl, by omega, by omega, ?_⟩
    have := goes_rng (lo := 0) (hi := n.1) (G1 := G1)
    rw [Int.sub_zero] at this
    exact q _ H1 G1 u this
  · cases hx
theorem src_rng2 {ta : TA} {m : Option (Int × Int × Unit)} (h : EA ta σ G W (aC rI (aC rI aN)) m) : Src (iRng2 ta) σ G W rI (m >>= fun n => rngM n.1 n.2.1) := fun xs hx H e e' k q => by
  obtain ⟨n, hn, hx⟩ := bindS hx
  refine h n hn H e e' _ fun v H1 G1 u r => ?_
  obtain ⟨v1, ws, rfl, e1, v2, ws2, rfl, e2, rfl⟩ := r
  cases e1
  cases e2
  unfold rngM at hx
  split at hx
  · rename_i hb
    cases hx
    exact ⟨n.1, n.2.1, rfl, ⟨by omega, by omega, by omega, by omega⟩, q _ H1 G1 u goes_rng⟩
  · cases hx
/-- a target: how the slots stand behind -/
def Tgt (g : TG) (R : Rep α) (P : Hp → α → L2.St → L2.St → Prop) : Prop :=
  ∀ v x σ G H (Q : L2.St → Hp → Prop), Ex G H → R.r G v x → (∀ σ2, P G x σ σ2 → Q σ2 H) → g v σ H Q
def pN (R : Rep α) (j : Nat) : Hp → α → L2.St → L2.St → Prop := fun G x σ σ2 => ∃ v, R.r G v x ∧ σ2 = σ.set j (some v)
def pP (R : Rep α) (S : Rep β) (i j : Nat) : Hp → α × β → L2.St → L2.St → Prop := fun G x σ σ2 => ∃ v w, R.r G v x.1 ∧ S.r G w x.2 ∧ σ2 = (σ.set i (some v)).set j (some w)
theorem tg_name {j : Nat} : Tgt (gName j) R (pN R j) := fun v x σ G H Q _ r k => k _ ⟨v, r, rfl⟩
theorem tg_pair {i j : Nat} : Tgt (gTup K 2 (gCons (gName i) (gCons (gName j) gNil))) (rP R S) (pP R S i j) := fun v x σ G H Q e r k => g_pair r e fun y z h1 h2 => k _ ⟨y, z, h1, h2, rfl⟩
/-! ### [e2 for x in xs if f1 for y in g2 x if p2] -/
def lc2M (f1 : α → Option Bool) (g2 : α → Option (List β)) (p2 : α → β → Option Bool) (e2 : α → β → Option γ) : List α → Option (List γ)
  | [] => some []
  | x :: xs => f1 x >>= fun b => bif b then g2 x >>= fun ys => lcM (p2 x) (e2 x) ys >>= fun zs => lc2M f1 g2 p2 e2 xs >>= fun r => some (zs ++ r) else lc2M f1 g2 p2 e2 xs
def lc2S (f1 : α → Option Bool) (g2 : α → Option (List β)) (p2 : α → β → Option Bool) (e2 : α → β → Option γ) (xs : List α) : Option (List γ) := lc2M f1 g2 p2 e2 xs >>= fun zs => bif sz zs.length then some zs else none
theorem lc2S_ok {f1 : α → Option Bool} {g2 : α → Option (List β)} {p2 : α → β → Option Bool} {e2 : α → β → Option γ} {xs : List α} {zs : List γ} (h : lc2S f1 g2 p2 e2 xs = some zs) : sz zs.length = true ∧ lc2M f1 g2 p2 e2 xs = some zs := by
  obtain ⟨ys, h1, h2⟩ := bindS h
  cases e : sz ys.length with
  | true => rw [e] at h2; cases h2; exact ⟨e, h1⟩
  | false => rw [e] at h2; cases h2
structure Acc (G0 H0 : Hp) (T : Rep γ) (D : Addr) (G H : Hp) (acc : List V) (ys : List γ) : Prop where
  n : H0 D = none
  u : Up G0 H0 G H
  gd : G D = none
  hd : H D = some (.lst acc)
  pr : Paired (T.r G) acc ys
section
variable {G0 H0 : Hp} {D : Addr} {acc : List V} {ys zs : List γ}
theorem Acc.sc {H2 : Hp} (A : Acc G0 H0 T D G H acc ys) (e : Ex H H2) : Acc G0 H0 T D G H2 acc ys := ⟨A.n, A.u.trans (Up.same A.u.gh e), A.gd, e _ _ A.hd, A.pr⟩
theorem Acc.up {G2 H2 : Hp} (A : Acc G0 H0 T D G H acc ys) (u : Up G H G2 H2) : Acc G0 H0 T D G2 H2 acc ys :=
  ⟨A.n, A.u.trans u, u.nw D (by rw [A.hd]; simp) A.gd, u.hh _ _ A.hd, Paired.mapP A.pr fun _ _ => T.mono u.gg⟩
theorem Acc.add {v : V} {y : γ} (A : Acc G0 H0 T D G H acc ys) (r : T.r G v y) : Acc G0 H0 T D G (upd H D (.lst (acc ++ [v]))) (acc ++ [v]) (ys ++ [y]) := by
  refine ⟨A.n, ⟨A.u.gg, fun a o h => ?_, Ex.mut A.u.hh A.n, A.u.nw⟩, A.gd, upd_same, pr_app A.pr (.cons r .nil)⟩
  rw [upd_ne (fun z => by subst z; rw [A.gd] at h; cases h)]
  exact A.u.gh a o h
theorem Acc.start (e : Ex G0 H0) (hD : H0 D = none) : Acc G0 H0 T D G0 (upd H0 D (.lst [])) [] [] := ⟨hD, Up.same e (Ex.new hD), fresh_back e hD, upd_same, .nil⟩
theorem Acc.fin (A : Acc G0 H0 T D G H acc ys) : ∃ G, H0 D = none ∧ Up G0 H0 G H ∧ Wd G H [(D, cL T ys)] := by
  refine ⟨G, A.n, A.u, A.u.gh, fun c hc => ?_, List.nodup_cons.mpr ⟨List.not_mem_nil, List.nodup_nil⟩⟩
  cases List.mem_singleton.mp hc
  exact ⟨A.gd, _, A.hd, acc, rfl, A.pr⟩
end
theorem el_lc2 {vs vs1 : List Nat} {m : Option (List α)} {f1 : α → Option Bool} {g2 : α → Option (List β)} {p2 : α → β → Option Bool} {e2 : α → β → Option γ} {P : Hp → α → L2.St → L2.St → Prop} {P1 : Hp → β → L2.St → L2.St → Prop}
    (h : Src wi σ G W R m) (hg : Tgt g R P) (hw : ∀ x G' σ2, P G' x (wipe σ vs) σ2 → wipe σ2 vs = wipe σ vs)
    (ht : ∀ x σ2 G' W', Ex G G' → Ex W W' → Ex G' W' → P G' x (wipe σ vs) σ2 → ET tt σ2 W' (f1 x))
    (hi : ∀ x σ2 G' W', Ex G G' → Ex W W' → Ex G' W' → P G' x (wipe σ vs) σ2 → Src wi1 σ2 G' W' S (g2 x))
    (hg1 : Tgt g1 S P1) (hw1 : ∀ x y G' G'' σ2 σ3, P G' x (wipe σ vs) σ2 → P1 G'' y (wipe σ2 vs1) σ3 → wipe σ3 vs1 = wipe σ2 vs1)
    (ht1 : ∀ x y σ2 σ3 G' W', Ex G G' → Ex W W' → Ex G' W' → P G' x (wipe σ vs) σ2 → P1 G' y (wipe σ2 vs1) σ3 → ET tt1 σ3 W' (p2 x y))
    (he : ∀ x y σ2 σ3 G' W', Ex G G' → Ex W W' → Ex G' W' → P G' x (wipe σ vs) σ2 → P1 G' y (wipe σ2 vs1) σ3 → E te σ3 G' W' T (e2 x y))
    (mP : ∀ x σ1 σ2 G1 G2, Ex G1 G2 → P G1 x σ1 σ2 → P G2 x σ1 σ2) (mP1 : ∀ x σ1 σ2 G1 G2, Ex G1 G2 → P1 G1 x σ1 σ2 → P1 G2 x σ1 σ2) :
    EL (tLc2 wi g tt wi1 g1 tt1 te vs vs1) σ G W T (m >>= fun xs => lc2S f1 g2 p2 e2 xs) := fun zs hz H e e' Q q => by
  obtain ⟨xs, hx, hz⟩ := bindS hz
  obtain ⟨hs, hz⟩ := lc2S_ok hz
  refine h xs hx H e e' _ fun J H1 G1 u gs D hD => ?_
  have e1 : Ex W H1 := e'.trans u.hh
  refine ⟨fun i n H' => n = xs.length - i ∧ i ≤ xs.length ∧ ∃ G' acc ys rest, Acc G1 H1 T D G' H' acc ys ∧ lc2M f1 g2 p2 e2 (xs.drop i) = some rest ∧ ys ++ rest = zs, ⟨_, rfl, Nat.zero_le _, G1, [], [], zs, Acc.start u.gh hD, hz, rfl⟩, ?_⟩
  rintro i n H' ⟨rfl, hi', G', acc, ys, rest, A, hr, hzs⟩
  have gx := gs i H' (A.u.gg.trans A.u.gh)
  by_cases hlt : i < xs.length
  · obtain ⟨x, hx⟩ : ∃ x, xs[i]? = some x := ⟨_, List.getElem?_eq_getElem hlt⟩
    obtain ⟨go, yl⟩ := gx.2 x hx
    rw [drop_at hx] at hr
    obtain ⟨b, hb, hr⟩ := bindS hr
    refine .inr ⟨go, fun H' => ∃ G' acc ys rest, Acc G1 H1 T D G' H' acc ys ∧ lc2M f1 g2 p2 e2 (xs.drop (i + 1)) = some rest ∧ ys ++ rest = zs, fun H2 ⟨G2, a2, y2, r2, A2, k1, k2⟩ => ⟨xs.length - (i + 1), by omega, rfl, hlt, G2, a2, y2, r2, A2, k1, k2⟩, fun v H2 y => ?_⟩
    obtain ⟨rfl, r⟩ := yl v H2 y
    refine hg v x _ G' H2 _ A.u.gh (R.mono A.u.gg r) fun σ2 p => ⟨hw x G' σ2 p, ?_⟩
    refine ht x σ2 G' H2 (u.gg.trans A.u.gg) (e1.trans A.u.hh) A.u.gh p b hb H2 (Ex.refl _) _ fun H3 e3 => ?_
    have A := A.sc e3
    cases b with
    | false => exact ⟨G', acc, ys, rest, A, hr, hzs⟩
    | true =>
      obtain ⟨bs, hbs, hr⟩ := bindS hr
      obtain ⟨r1, hr1, hr⟩ := bindS hr
      obtain ⟨r2, hr2, hr⟩ := bindS hr
      cases hr
      show wi1 σ2 H3 _
      refine hi x σ2 G' H3 (u.gg.trans A.u.gg) (e1.trans A.u.hh) A.u.gh p bs hbs H3 A.u.gh (Ex.refl _) _ fun J1 H4 G4 u4 gs1 => ?_
      have A := A.up u4
      have p := mP _ _ _ _ _ u4.gg p
      refine ⟨fun j n H' => n = bs.length - j ∧ j ≤ bs.length ∧ ∃ G' acc ys rest, Ex G4 G' ∧ Acc G1 H1 T D G' H' acc ys ∧ lcM (p2 x) (e2 x) (bs.drop j) = some rest ∧ ys ++ (rest ++ r2) = zs, ⟨_, rfl, Nat.zero_le _, G4, acc, ys, r1, Ex.refl _, A, hr1, hzs⟩, ?_⟩
      rintro j n H5 ⟨rfl, hj, G5, acc5, ys5, rest5, x5, A5, hr5, hz5⟩
      have gx1 := gs1 j H5 (x5.trans A5.u.gh)
      have p := mP _ _ _ _ _ x5 p
      by_cases hlt1 : j < bs.length
      · obtain ⟨y, hy⟩ : ∃ y, bs[j]? = some y := ⟨_, List.getElem?_eq_getElem hlt1⟩
        obtain ⟨go1, yl1⟩ := gx1.2 y hy
        rw [drop_at hy] at hr5
        obtain ⟨b1, hb1, hr5⟩ := bindS hr5
        refine .inr ⟨go1, fun H' => ∃ G' acc ys rest, Ex G4 G' ∧ Acc G1 H1 T D G' H' acc ys ∧ lcM (p2 x) (e2 x) (bs.drop (j + 1)) = some rest ∧ ys ++ (rest ++ r2) = zs, fun H2 ⟨G2, a2, y2, q2, x2, A2, k1, k2⟩ => ⟨bs.length - (j + 1), by omega, rfl, hlt1, G2, a2, y2, q2, x2, A2, k1, k2⟩, fun v1 H6 yy => ?_⟩
        obtain ⟨rfl, r'⟩ := yl1 v1 H6 yy
        refine hg1 v1 y _ G5 H6 _ A5.u.gh (S.mono x5 r') fun σ3 p1 => ⟨hw1 x y G5 G5 σ2 σ3 p p1, ?_⟩
        refine ht1 x y σ2 σ3 G5 H6 (u.gg.trans A5.u.gg) (e1.trans A5.u.hh) A5.u.gh p p1 b1 hb1 H6 (Ex.refl _) _ fun H7 e7 => ?_
        have A5 := A5.sc e7
        cases b1 with
        | false => exact ⟨G5, acc5, ys5, rest5, x5, A5, hr5, hz5⟩
        | true =>
          obtain ⟨z, hz', hr5⟩ := bindS hr5
          obtain ⟨t, ht', hr5⟩ := bindS hr5
          cases hr5
          show te σ3 H7 _
          refine he x y σ2 σ3 G5 H7 (u.gg.trans A5.u.gg) (e1.trans A5.u.hh) A5.u.gh p p1 z hz' H7 A5.u.gh (Ex.refl _) _ fun w H8 G8 u8 r8 => ?_
          have A8 := A5.up u8
          refine ⟨acc5, A8.hd, ?_, G8, _, _, t, x5.trans u8.gg, A8.add r8, ht', by rw [← hz5]; simp⟩
          rw [A8.pr.length]
          refine sz_l (n := ys5.length) (decide_eq_true ?_)
          have h9 := of_decide_eq_true hs
          rw [← hz5] at h9
          simp only [List.length_append, List.length_cons] at h9
          omega
      · have ej : j = bs.length := by omega
        subst ej
        rw [List.drop_length] at hr5
        cases hr5
        exact .inl ⟨gx1.1 rfl, G5, acc5, ys5, r2, A5, hr2, hz5⟩
  · have ei : i = xs.length := by omega
    subst ei
    rw [List.drop_length] at hr
    cases hr
    rw [List.append_nil] at hzs
    subst hzs
    obtain ⟨G9, k1, k2, k3⟩ := A.fin
    exact .inl ⟨gx.1 rfl, q D H' G9 (fresh_back u.hh k1) (u.trans k2) k3⟩
theorem mpN {j : Nat} : ∀ x σ1 σ2 G1 G2, Ex G1 G2 → pN R j G1 x σ1 σ2 → pN R j G2 x σ1 σ2 := fun x σ1 σ2 G1 G2 e ⟨v, r, h⟩ => ⟨v, R.mono e r, h⟩
theorem mpP {i j : Nat} : ∀ x σ1 σ2 G1 G2, Ex G1 G2 → pP R S i j G1 x σ1 σ2 → pP R S i j G2 x σ1 σ2 := fun x σ1 σ2 G1 G2 e ⟨v, w, r, t, h⟩ => ⟨v, w, R.mono e r, S.mono e t, h⟩
/-! ### is True, is False; and where the first operand is known -/
end
/-- x is b, x a bool or None -/
def rIsBN (neg : Bool) : R2 := fun x y H Q => ∃ b : Bool, (x = .non ∨ ∃ a : Bool, x = .bl a) ∧ y = .bl b ∧ Q (.bl (if neg then !decide (x = .bl b) else decide (x = .bl b))) H
theorem op_isBN {X : Cx} : OpR X (compareOp .Is) (rIsBN false) := by
  intro pins s σ H x y v u Q I rx ry h
  obtain ⟨b, hx, rfl, q⟩ := h
  cases (show u = Value.bool b from ry)
  rcases hx with rfl | ⟨a, rfl⟩
  · cases (show v = Value.none from rx)
    exact wpAny_is_other rfl (fun z => by cases z) ⟨.bl false, H, I, rfl, by simpa using q⟩
  · cases (show v = Value.bool a from rx)
    by_cases e : a = b
    · subst e
      exact wpAny_is_self rfl ⟨.bl true, H, I, rfl, by simpa using q⟩
    · exact wpAny_is_other rfl (fun z => e (Value.bool.inj z)) ⟨.bl false, H, I, rfl, by simpa [e] using q⟩
theorem op_notBN {X : Cx} : OpR X (compareOp .IsNot) (rIsBN true) := by
  intro pins s σ H x y v u Q I rx ry h
  obtain ⟨b, hx, rfl, q⟩ := h
  cases (show u = Value.bool b from ry)
  rcases hx with rfl | ⟨a, rfl⟩
  · cases (show v = Value.none from rx)
    exact wpAny_isNot_other rfl (fun z => by cases z) ⟨.bl true, H, I, rfl, by simpa using q⟩
  · cases (show v = Value.bool a from rx)
    by_cases e : a = b
    · subst e
      exact wpAny_isNot_self rfl ⟨.bl false, H, I, rfl, by simpa using q⟩
    · exact wpAny_isNot_other rfl (fun z => e (Value.bool.inj z)) ⟨.bl true, H, I, rfl, by simpa [e] using q⟩
section
variable {K : PySem.W.Frag} {σ : L2.St} {G H W : Hp} {te ta : TE} {α : Type}
theorem rr_isBN {neg : Bool} : RR (rIsBN neg) rB rB rB (fun x y => some (if neg then !(x == y) else x == y)) := fun v w x y z H G hv hw hz e Q q => by
  cases hv; cases hw; cases hz
  refine ⟨y, .inr ⟨x, rfl⟩, rfl, q _ H G (Up.refl e) ?_⟩
  cases neg <;> cases x <;> cases y <;> rfl
theorem rr_isBNO {neg : Bool} : RR (rIsBN neg) (rO rB) rB rB (fun x y => some (if neg then !(x == some y) else x == some y)) := fun v w x y z H G hv hw hz e Q q => by
  cases hw; cases hz
  cases x with
  | none => cases (show v = .non from hv); exact ⟨y, .inl rfl, rfl, q _ H G (Up.refl e) (by cases neg <;> cases y <;> rfl)⟩
  | some x => cases (show v = .bl x from hv); exact ⟨y, .inr ⟨x, rfl⟩, rfl, q _ H G (Up.refl e) (by cases neg <;> cases x <;> cases y <;> rfl)⟩
/-- what is never evaluated -/
def tNo : TE := fun _ _ _ => False
theorem pe_no {X : Cx} {e : Expr} : PE X e tNo := ⟨fun _ _ _ _ _ _ h => h.elim⟩
theorem e_andF (h1 : E ta σ G W rB (some false)) : E (tAndV ta tNo) σ G W rB (some false) := fun z hz H e e' Q q => by
  cases hz
  exact h1 _ rfl H e e' _ fun v H1 G1 u1 r1 => ⟨false, r1, q _ H1 G1 u1 rfl⟩
theorem rc_lenP {β : Type} {R : Rep α} {S : Rep β} : RC (rLn K) (aC (rP R S) aN) rI (fun _ => some 2) := fun vs i z H G hv hz e Q q => by
  cases hz
  obtain ⟨v, ws, rfl, ⟨a, x, y, rfl, h2, h3, h4⟩, rfl⟩ := hv
  exact ⟨a, [x, y], rfl, Or.inr (Or.inl (Or.inl (e a _ h2))), q _ H G (Up.refl e) rfl⟩
end
end Sim

/-! static methods, class constants read off the class -/
namespace L2
open PySem PySem.Spec PyProof.Rows
section
variable {X : Cx} {CX : CXT} {k : Nat} {f C p : Addr} {fd : FuncData} {ps : List Str} {sp : Sp} {E : St → XK} {x m : Str} {pos apos : Pos} {e o : Expr} {es : List Expr} {ta : TE} {t : TA}
/-- C.m(e, ..), what is raised wished for at the slots -/
def tStatT (C : Addr) (sp : Sp) (E : St → XK) (to : TE) (t : TA) : TE := fun σ H Q => to σ H fun x H1 => x = .ref C ∧ t σ H1 fun vs H2 => sp vs H2 Q (E σ)
theorem pe_statT {pl : Sem Bool} (he : PE X o ta) (S : Sim.StatOf X.K C m p f) (kp : PySem.W.keepIn X.K (.ref f) = true) (F : FnOk X.prog X.w X.K X.mg X.base CX k f fd ps sp) (hr : Room k X.A) (hb : Binds X.K fd ps []) (hx : ∀ σ, PassesAt CX X σ (E σ)) (ha : PA X (e :: es) t)
    (hst : starEach (e :: es) X.env = (false, eval e X.env) :: starEach es X.env := by rfl) (hpl : (backTo pos (starEach es X.env)).any (·.1) = false := by rfl)
    (ht : eval (.Call (.Attribute o m apos) (e :: es) [] pos) X.env = (do
      let ov ← eval o X.env
      standAt apos.atName
      let (f, first) ← holding [ov] (getMethod ov m pl)
      callWith pos f first (backTo pos (starEach (e :: es) X.env)) (backToKw pos (keywordEach [] X.env))) := by rfl) :
    PE X (.Call (.Attribute o m apos) (e :: es) [] pos) (tStatT C sp E ta t) := by
  refine ⟨fun pins s σ H Q I h => ?_⟩
  refine PySem.W.methodCall_KW (pl := pl) (thn (he.run pins s σ H _ I h) fun u s1 ⟨x, H1, I1, rx, ex, q⟩ => ?_) ht
  subst ex
  obtain rfl : u = Value.ref C := rx
  obtain ⟨mm, hF⟩ := I1.fr
  obtain ⟨rest, rc⟩ := S.rc
  refine PySem.W.method_of_cls hF I1.ok.mod.kin S.ga (PySem.W.cls_sm hF I1.ok.mod.kin S.ty S.rd S.at_ rc S.hd ?_)
  have I1' := I1.tok (s1.toks + 1)
  refine PySem.W.callWith_K (first := []) (h₀ := X.base) I1.ok.mod.kin kp (thn (ha.run pos pins _ σ H1 _ I1' q) fun us s2 ⟨vs, H2, I2, r, q2⟩ => ⟨I2.kIn, ?_⟩) hst hpl
  exact run_fnS (us := us) (vs := vs) F hr hb (hx σ) I2 r q2
end
end L2
namespace Sim
open PySem PySem.Spec PyProof.Rows L2 Evl
section
variable {K : PySem.W.Frag} {σ : L2.St} {G H W : Hp} {ta : TA} {ι γ : Type} {A : AR ι} {T : Rep γ} {C : Addr}
theorem e_statT {f : ι → Option γ} {mi : Option ι} {Wx : L2.St → XK} (ha : EA ta σ G W A mi) : E (tStatT C (PF A T f) Wx (tC (.ref C)) ta) σ G W T (mi >>= f) := fun z hz H e e' Q q => by
  obtain ⟨i, hi, hz⟩ := bindS hz
  refine ⟨rfl, ha i hi H e e' _ fun vs H1 G1 u1 r1 => ?_⟩
  exact ⟨G1, i, z, u1.gh, r1, hz, fun v H2 G2 u2 r2 => q v H2 G2 (u1.trans u2) r2⟩
theorem ex_statT {f : ι → Option (Xn ⊕ γ)} {mi : Option ι} {Wx : L2.St → XK} (ha : EA ta σ G W A mi) : EX K (tStatT C (PX K A T f) Wx (tC (.ref C)) ta) σ G W T (mi >>= f) (Wx σ) := fun z hz H e e' Q qx q => by
  obtain ⟨i, hi, hz⟩ := bindS hz
  refine ⟨rfl, ha i hi H e e' _ fun vs H1 G1 u1 r1 => ?_⟩
  exact ⟨G1, i, z, u1.gh, r1, hz, fun x hx d H2 G2 u2 r2 => qx x hx d H2 G2 (u1.trans u2) r2, fun x hx v H2 G2 u2 r2 => q x hx v H2 G2 (u1.trans u2) r2⟩
def cvalB (C f : Str) (v : Int) (K : PySem.W.Frag) : Bool := PySem.W.readsIn K (He.ga K C) (.type "type") && (decide (PySem.W.specialIn K (.ref (He.ga K C)) "__getattribute__" = some (some (.builtin "type.__getattribute__"))) && (match PySem.W.findCls K (.ref (He.ga K C)) (.type "type") f with
  | some (.val (.int i _)) => i == v
  | _ => false))
theorem e_cval {C f : Str} {v : Int} (h : cvalB C f v K = true) : E (ClX.tCVal K (tC (.ref (He.ga K C))) f) σ G W rI (some v) := fun z hz H e e' Q q => by
  cases hz
  obtain ⟨h1, h⟩ := He.ba h
  obtain ⟨h2, h3⟩ := He.ba h
  cases q2 : PySem.W.findCls K (.ref (He.ga K C)) (.type "type") f with
  | none => rw [q2] at h3; cases h3
  | some d =>
    rw [q2] at h3
    cases d with
    | val u =>
      cases u with
      | int i t =>
        have : i = v := eq_of_beq h3
        subst this
        exact ⟨He.ga K C, .type "type", .int i, .int i t, rfl, ⟨h1, of_decide_eq_true h2⟩, ⟨q2, ⟨t, rfl⟩⟩, q _ H G (Up.refl e) rfl⟩
      | _ => cases h3
    | _ => cases h3
end
end Sim

/-! data of mixed kinds; a pair unpacked; one-clause comprehensions over anything -/
namespace Sim
open PySem L2 Evl
mutual
theorem Dp.up {K : PySem.W.Frag} {H H' : Hp} (e : Ex H H') : ∀ {v : V} {d : PyData}, Dp K H v d → Dp K H' v d
  | _, _, .non => .non
  | _, _, .bl b => .bl b
  | _, _, .int i => .int i
  | _, _, .str x => .str x
  | _, _, .lst h t => .lst (ex_l e h) (DpAll.up e t)
  | _, _, .tup h t => .tup (ex_t e h) (DpAll.up e t)
theorem DpAll.up {K : PySem.W.Frag} {H H' : Hp} (e : Ex H H') : ∀ {vs : List V} {ds : List PyData}, DpAll K H vs ds → DpAll K H' vs ds
  | _, _, .nil => .nil
  | _, _, .cons h t => .cons (Dp.up e h) (DpAll.up e t)
end
/-- any data without dicts -/
def rD (K : PySem.W.Frag) : Rep PyData := ⟨fun H v d => Dp K H v d ∧ d.plain = true ∧ d.depth ≤ 20, fun e ⟨h, r⟩ => ⟨Dp.up e h, r⟩⟩
section
variable {K : PySem.W.Frag} {σ : L2.St} {G H W G0 H0 : Hp} {ls : List Addr} {cs : Cs} {te : TE} {α β γ : Type} {R : Rep α} {S : Rep β} {T : Rep γ} {D : Ends} {tz : TS}
theorem e_toD {d : α → PyData} {n : Nat} {m : Option α} (h : E te σ G W R m) (hd : Dt R d n) (hn : n ≤ 20) : E te σ G W (rD K) (m >>= fun x => some (d x)) := fun z hz H e e' Q q => by
  obtain ⟨x, hx, hz⟩ := bindS hz
  cases hz
  exact h x hx H e e' Q fun v H2 G2 u r => q v H2 G2 u ⟨hd.dp r, hd.lay x, Nat.le_trans (hd.dep x) hn⟩
theorem e_nonD : E (tC .non) σ G W (rD K) (some .none) := fun z hz H e e' Q q => by
  cases hz
  exact q _ H G (Up.refl e) ⟨.non, rfl, Nat.zero_le _⟩
def toDM (d : PyData) : Option PyData := bif decide (d.depth ≤ 20) then some d else none
theorem pr_dpD {H : Hp} : ∀ {vs : List V} {xs : List PyData}, Paired ((rD K).r H) vs xs → DpAll K H vs xs ∧ PyData.plainAll xs = true
  | _, _, .nil => ⟨.nil, rfl⟩
  | _, _, .cons r t => by
    obtain ⟨h1, h2⟩ := pr_dpD t
    exact ⟨.cons r.1 h1, Bool.and_eq_true_iff.mpr ⟨r.2.1, h2⟩⟩
theorem e_toDL {m : Option (List PyData)} (h : E te σ G W (rL (rD K)) m) : E te σ G W (rD K) (m >>= fun xs => toDM (.list xs)) := fun z hz H e e' Q q => by
  obtain ⟨xs, hx, hz⟩ := bindS hz
  unfold toDM at hz
  cases hb : decide ((PyData.list xs).depth ≤ 20) with
  | false => rw [hb] at hz; cases hz
  | true =>
    rw [hb] at hz
    cases hz
    refine h xs hx H e e' Q fun v H2 G2 u r => ?_
    obtain ⟨a, vs, rfl, h2, h3⟩ := r
    obtain ⟨k1, k2⟩ := pr_dpD h3
    exact q _ H2 G2 u ⟨.lst (Or.inl (Or.inl h2)) k1, k2, of_decide_eq_true hb⟩
theorem e_toDT {m : Option (List PyData)} (h : E te σ G W (rT (rD K)) m) : E te σ G W (rD K) (m >>= fun xs => toDM (.tuple xs)) := fun z hz H e e' Q q => by
  obtain ⟨xs, hx, hz⟩ := bindS hz
  unfold toDM at hz
  cases hb : decide ((PyData.tuple xs).depth ≤ 20) with
  | false => rw [hb] at hz; cases hz
  | true =>
    rw [hb] at hz
    cases hz
    refine h xs hx H e e' Q fun v H2 G2 u r => ?_
    obtain ⟨a, vs, rfl, h2, h3⟩ := r
    obtain ⟨k1, k2⟩ := pr_dpD h3
    exact q _ H2 G2 u ⟨.tup (Or.inl (Or.inl h2)) k1, k2, of_decide_eq_true hb⟩
theorem rr_eqDD : RR (rEqP K) (rD K) (rD K) rB (fun x y => some (PyData.eqv x y)) := fun v w x y z H G hv hw hz e Q q => by
  cases hz
  obtain ⟨h1, h2, h3⟩ := (rD K).mono e hv
  obtain ⟨k1, k2, k3⟩ := (rD K).mono e hw
  exact ⟨x, y, h1, k1, ⟨h2, by omega⟩, ⟨k2, by omega⟩, q _ H G (Up.refl e) rfl⟩
theorem rr_neDD : RR (rNeP K) (rD K) (rD K) rB (fun x y => some (!PyData.eqv x y)) := fun v w x y z H G hv hw hz e Q q => by
  cases hz
  obtain ⟨h1, h2, h3⟩ := (rD K).mono e hv
  obtain ⟨k1, k2, k3⟩ := (rD K).mono e hw
  exact ⟨x, y, h1, k1, ⟨h2, by omega⟩, ⟨k2, by omega⟩, q _ H G (Up.refl e) rfl⟩
def noneD : PyData → Bool
  | .none => true
  | _ => false
theorem noneD_ok {v : V} {d : PyData} (h : Dp K H v d) : decide (v = .non) = noneD d := by
  cases h <;> first | rfl | simp [noneD]
theorem rr_isND : RR (fun x y H Q => y = .non ∧ Q (.bl (decide (x = .non))) H) (rD K) rU rB (fun d _ => some (noneD d)) := fun v w o y z H G hv hw hz e Q q => by
  cases hz
  exact ⟨hw, q _ H G (Up.refl e) (congrArg V.bl (noneD_ok hv.1))⟩
theorem rr_notND : RR (fun x y H Q => y = .non ∧ Q (.bl (!decide (x = .non))) H) (rD K) rU rB (fun d _ => some (!noneD d)) := fun v w o y z H G hv hw hz e Q q => by
  cases hz
  exact ⟨hw, q _ H G (Up.refl e) (congrArg (fun b => V.bl (!b)) (noneD_ok hv.1))⟩
theorem nnObjD : True := trivial
/-- a, b = e -/
theorem x_unpk {i j : Nat} {m : Option (α × β)} {x : α × β} (w : Wo G0 H0 ls G H cs) (h : E te σ G H (rP R S) m) (hm : m = some x) (k : ∀ u v H2 G2, Wo G0 H0 ls G2 H2 cs → Ex G G2 → R.r G2 u x.1 → S.r G2 v x.2 → tz D ((σ.set i (some u)).set j (some v)) H2) :
    tSeq (tAsg te (gTup K 2 (gCons (gName i) (gCons (gName j) gNil)))) tz D σ H :=
  c_e (Q := fun x H1 => gTup K 2 (gCons (gName i) (gCons (gName j) gNil)) x σ H1 (tz D)) w h hm fun v H2 G2 w2 e r => g_pair r w2.ex fun u v r1 r2 => k u v H2 G2 w2 e r1 r2
theorem o_unpk {i j : Nat} {v : V} {p : α × β} {Q : L2.St → Hp → Prop} (r : (rP R S).r G v p) (e : Ex G H) (k : ∀ x y, R.r G x p.1 → S.r G y p.2 → Q ((σ.set i (some x)).set j (some y)) H) : gTup K 2 (gCons (gName i) (gCons (gName j) gNil)) v σ H Q := g_pair r e k
theorem x_asgO {g : TG} (h : te σ H fun v H1 => g v σ H1 (tz D)) : tSeq (tAsg te g) tz D σ H := h
end
section
variable {K : PySem.W.Frag} {σ : L2.St} {G H W : Hp} {te : TE} {tt : TT} {α γ : Type} {R : Rep α} {T : Rep γ} {wi : TI} {g : TG}
/-- [e2 for x in xs if f1] -/
theorem el_lc1 {vs : List Nat} {m : Option (List α)} {f1 : α → Option Bool} {e2 : α → Option γ} {P : Hp → α → L2.St → L2.St → Prop}
    (h : Src wi σ G W R m) (hg : Tgt g R P) (hw : ∀ x G' σ2, P G' x (wipe σ vs) σ2 → wipe σ2 vs = wipe σ vs)
    (ht : ∀ x σ2 G' W', Ex G G' → Ex W W' → Ex G' W' → P G' x (wipe σ vs) σ2 → ET tt σ2 W' (f1 x))
    (he : ∀ x σ2 G' W', Ex G G' → Ex W W' → Ex G' W' → P G' x (wipe σ vs) σ2 → E te σ2 G' W' T (e2 x)) :
    EL (tLc wi g tt te vs) σ G W T (m >>= fun xs => lcS f1 e2 xs) := fun zs hz H e e' Q q => by
  obtain ⟨xs, hx, hz⟩ := bindS hz
  obtain ⟨hs, hz⟩ := lcS_ok hz
  refine h xs hx H e e' _ fun J H1 G1 u gs D hD => ?_
  have e1 : Ex W H1 := e'.trans u.hh
  refine ⟨fun i n H' => n = xs.length - i ∧ i ≤ xs.length ∧ ∃ G' acc ys rest, Acc G1 H1 T D G' H' acc ys ∧ lcM f1 e2 (xs.drop i) = some rest ∧ ys ++ rest = zs ∧ ys.length ≤ i, ⟨_, rfl, Nat.zero_le _, G1, [], [], zs, Acc.start u.gh hD, hz, rfl, Nat.le_refl _⟩, ?_⟩
  rintro i n H' ⟨rfl, hi', G', acc, ys, rest, A, hr, hzs, hyl⟩
  have gx := gs i H' (A.u.gg.trans A.u.gh)
  by_cases hlt : i < xs.length
  · obtain ⟨x, hx⟩ : ∃ x, xs[i]? = some x := ⟨_, List.getElem?_eq_getElem hlt⟩
    obtain ⟨go, yl⟩ := gx.2 x hx
    rw [drop_at hx] at hr
    obtain ⟨b, hb, hr⟩ := bindS hr
    refine .inr ⟨go, fun H' => ∃ G' acc ys rest, Acc G1 H1 T D G' H' acc ys ∧ lcM f1 e2 (xs.drop (i + 1)) = some rest ∧ ys ++ rest = zs ∧ ys.length ≤ i + 1, fun H2 ⟨G2, a2, y2, r2, A2, k1, k2, k3⟩ => ⟨xs.length - (i + 1), by omega, rfl, hlt, G2, a2, y2, r2, A2, k1, k2, k3⟩, fun v H2 y => ?_⟩
    obtain ⟨rfl, r⟩ := yl v H2 y
    refine hg v x _ G' H2 _ A.u.gh (R.mono A.u.gg r) fun σ2 p => ⟨hw x G' σ2 p, ?_⟩
    refine ht x σ2 G' H2 (u.gg.trans A.u.gg) (e1.trans A.u.hh) A.u.gh p b hb H2 (Ex.refl _) _ fun H3 e3 => ?_
    have A := A.sc e3
    cases b with
    | false => exact ⟨G', acc, ys, rest, A, hr, hzs, by omega⟩
    | true =>
      obtain ⟨z, hz', hr⟩ := bindS hr
      obtain ⟨t, ht', hr⟩ := bindS hr
      cases hr
      show te σ2 H3 _
      refine he x σ2 G' H3 (u.gg.trans A.u.gg) (e1.trans A.u.hh) A.u.gh p z hz' H3 A.u.gh (Ex.refl _) _ fun w H8 G8 u8 r8 => ?_
      have A8 := A.up u8
      refine ⟨acc, A8.hd, ?_, G8, _, _, t, A8.add r8, ht', by rw [← hzs]; simp, by simp; omega⟩
      rw [A8.pr.length]
      refine sz_l (n := ys.length) (decide_eq_true ?_)
      have h9 := of_decide_eq_true hs
      omega
  · have ei : i = xs.length := by omega
    subst ei
    rw [List.drop_length] at hr
    cases hr
    rw [List.append_nil] at hzs
    subst hzs
    obtain ⟨G9, k1, k2, k3⟩ := A.fin
    exact .inl ⟨gx.1 rfl, q D H' G9 (fresh_back u.hh k1) (u.trans k2) k3⟩
end
end Sim

/-! dicts -/
namespace Sim
open PySem L2 Evl
/-- a dict: its entries in order; kf: how a key stands -/
def rM {κ α : Type} (kf : κ → Key) (R : Rep α) : Rep (List (κ × α)) := ⟨fun H v kvs => ∃ a ws, v = .ref a ∧ H a = some (.dK ws) ∧ Paired (fun (p : Key × V) (q : κ × α) => p.1 = kf q.1 ∧ R.r H p.2 q.2) ws kvs,
  fun e ⟨a, ws, h1, h2, h3⟩ => ⟨a, ws, h1, e a _ h2, Paired.mapP h3 fun _ _ h => ⟨h.1, R.mono e h.2⟩⟩⟩
section
variable {K : PySem.W.Frag} {σ : L2.St} {G H W : Hp} {κ α β γ : Type} {kf : κ → Key} {R : Rep α}
theorem ktM : KTy (rM kf R) "dict" := fun ⟨a, ws, h, h2, _⟩ => by rw [h]; exact .base (.dK h2)
theorem e_dnew : E tDNewK σ G W (rM kf R) (some []) := fun z hz H e e' Q q => by
  cases hz
  intro p hp
  exact q _ (upd H p (.dK [])) (upd G p (.dK [])) (Up.lay e hp) ⟨p, [], rfl, upd_same, .nil⟩
/-- a < b < c -/
theorem e_chain {ta tb tc : TE} {r r' : R2} {S : Rep β} {T : Rep γ} {f : α → β → Option Bool} {g : β → γ → Option Bool} {ma : Option α} {mb : Option β} {mc : Option γ} (hr : RR r R S rB f) (hr' : RR r' S T rB g)
    (ha : E ta σ G W R ma) (hb : E tb σ G W S mb) (hc : E tc σ G W T mc) : E (tChain r r' ta tb tc) σ G W rB (ma >>= fun x => mb >>= fun y => andO (f x y) (mc >>= fun z => g y z)) := fun z hz H e e' Q q => by
  obtain ⟨x, hx, hz⟩ := bindS hz
  obtain ⟨y, hy, hz⟩ := bindS hz
  obtain ⟨b, hb', hz⟩ := bindS hz
  refine ha x hx H e e' _ fun v H1 G1 u1 r1 => ?_
  refine (hb.mono u1.gg (e'.trans u1.hh)) y hy H1 u1.gh (Ex.refl _) _ fun w H2 G2 u2 r2 => ?_
  refine hr v w x y b H2 G2 (R.mono u2.gg r1) r2 hb' u2.gh _ fun u H3 G3 u3 r3 => ?_
  cases r3
  refine ⟨b, rfl, ?_⟩
  cases b with
  | false =>
    have hz : some false = some z := hz
    cases hz
    rw [if_neg (by decide)]
    exact q _ H3 G3 ((u1.trans u2).trans u3) rfl
  | true =>
    rw [if_pos rfl]
    obtain ⟨c, hc', hz⟩ := bindS (show (mc >>= fun z => g y z) = some z from hz)
    refine (hc.mono ((u1.gg.trans u2.gg).trans u3.gg) (((e'.trans u1.hh).trans u2.hh).trans u3.hh)) c hc' H3 u3.gh (Ex.refl _) _ fun w4 H4 G4 u4 r4 => ?_
    exact hr' w w4 y c z H4 G4 (S.mono (u3.gg.trans u4.gg) r2) r4 hz u4.gh Q fun u5 H5 G5 up5 r5 => q u5 H5 G5 ((((u1.trans u2).trans u3).trans u4).trans up5) r5
end
end Sim

set_option maxHeartbeats 2000000
/-! own iterables: __iter__ gives iter(a list of theirs) -/
namespace L2
open PySem PySem.Spec PyProof.Rows ItX
/-- a def whose promise may speak of how many objects there are when it is called -/
structure FnOkS (P : Program) (w : World) (K : PySem.W.Frag) (mg : Str → Option Value) (base : Heap) (k : Nat) (f : Addr) (fd : FuncData) (ps : List Str) (sp : Nat → Sp) : Prop where
  len : ∀ n vs H Q E, sp n vs H Q E → vs.length = ps.length
  run : ∀ (A : Around) (outer : List Env) (s : Shared) (H : Hp) (args : Args) (us : List Value) (vs : List V) (Q : VK) (E : XK), Room k A → Env0 P w K mg base A outer s H → BindsTo s fd args (ps.zip us) → Vals vs us → sp s.heap.objs.size vs H Q E →
    codeAny (model P w) A (.call (.ref f) args) (CR CX0 outer P w H s Q E) s
theorem FunD.okS {P : Program} {w : World} {K : PySem.W.Frag} {mg : Str → Option Value} {base : Heap} {x qual : Str} {params : Arguments} {body : List Stmt} {scope : Scope} {dvs : List V} {kws : List (Str × V)} {f : Addr} {fd : FuncData}
    {N ps : List Str} {k : Nat} {sp : Nat → Sp} (F : FunD K x qual params body scope dvs kws f fd) (S : FnScope N ps scope) (len : ∀ n vs H Q E, sp n vs H Q E → vs.length = ps.length)
    (hbody : ∀ (cdv : Value) (A : Around) (outer : List Env) (s : Shared) (H : Hp) (vs : List V) (Q : VK) (E : XK), Room k (A.deeper (envOfC qual scope s.heap.objs.size f cdv)) → sp s.heap.objs.size vs H Q E →
      ∃ t, PSs (cxOf CX0 P w K mg base N qual scope f cdv A outer s H E) body t ∧ t { nx := fun _ H' => Q .non H', rt := Q } (start N vs) H) : FnOkS P w K mg base (k + 1) f fd ps sp := by
  obtain ⟨oc, od, dV, kV, doc, pm, an, cdv, ct, osl, rfl, lk, hcd, _, _⟩ := F.ex
  refine ⟨len, fun A outer s H args us vs Q E hr e0 hb r hsp => ?_⟩
  have hl := len _ _ _ _ _ hsp
  have KX : K.In s.heap := e0.mod.kin.keeps fun b o e => (e0.bs b o e).1
  have lim : s.heap.NoLimit := e0.mod.nolimit.keeps fun b o e => (e0.bs b o e).1
  have hkind : ∀ y ∈ ps.zip us, scope.names.lookup y.1 = some .local ∨ (scope.names.lookup y.1 = some .cell ∧ ((cellsFrom (s.heap.objs.size + 1) scope.names []).lookup y.1).isSome = true) := fun ⟨n, v⟩ hy => by
    rcases S.par n (List.of_mem_zip hy).1 with q | q
    · exact .inl q
    · exact .inr ⟨q, PySem.W.cellsFrom_some _ _ _ (.inl q)⟩
  refine codeAny_call_function hr.depth (KX _ _ lk) rfl S.co S.gen rfl (PySem.W.codeRec_of KX hcd) (hb _ _ _ _ ?_)
  refine wpAny_newFunctionEnv_cells S.kind hkind fun env he s1 x => ?_
  subst he
  refine ⟨lim.keeps x.toInCall.keep, codeAny_func ?_⟩
  obtain ⟨t, ht, hq⟩ := hbody cdv A outer s H vs Q E (hr.deeper _) hsp
  have I : Inv (cxOf CX0 P w K mg base N qual scope f cdv A outer s H E) [] (start N vs) H s1 := inv_start S hr.hd e0 hl r x
  refine wpAny_mono (ht.run [] s1 (start N vs) H _ I hq) (fun fl s' hs => ?_) fun e s' hs => hs
  have fin : ∀ {σ' : St} {H' : Hp} {v : V} {u : Value}, Inv (cxOf CX0 P w K mg base N qual scope f cdv A outer s H E) [] σ' H' s' → RelV v u → Q v H' → CE outer P w H s Q u s' :=
    fun {σ' H' v u} J rv q => ⟨v, H', J.os, J.bare, J.base, J.hok, rv, q⟩
  cases fl with
  | ret u =>
    obtain ⟨v, σ', H', J, rv, q⟩ := hs
    exact fin J rv q
  | next =>
    obtain ⟨σ', H', J, q⟩ := hs
    exact fin (v := V.non) (u := Value.none) J rfl q
  | brk =>
    obtain ⟨_, _, _, q⟩ := hs
    exact False.elim q
  | cont =>
    obtain ⟨_, _, _, q⟩ := hs
    exact False.elim q
/-- what such an __iter__ promises: an iterator over the list in the field f -/
def spIter (K : PySem.W.Frag) (C : Addr) (f : Str) : Nat → Sp := fun n vs H Q _ => ∃ a dx fs l zs, vs = [.ref a] ∧ H a = some (.ins C dx fs) ∧ fs.lookup f = some (.ref l) ∧ SqL K H l zs ∧
  ∀ it, H it = Option.none → n ≤ it → Q (.ref it) (upd H it (ItO l it 0))
section
variable {X : Cx} {k j : Nat} {fi C : Addr} {fd : FuncData} {ps : List Str} {pins : List (Addr × Obj)} {σ : St} {H : Hp} {s : Shared} {te : TE} {f : Str}
theorem run_spS {A : Around} {Q : VK} {us : List Value} {vs : List V} {E : XK} {sp : Nat → Sp} (F : FnOkS X.prog X.w X.K X.mg X.base k fi fd ps sp) (hr : Room k A) (hfr : A.frames = X.A.frames) (hb : Binds X.K fd ps [])
    (I : Inv X pins σ H s) (r : Vals vs us) (h : sp s.heap.objs.size vs H Q E) : wpAny (model X.prog X.w) A (call (.ref fi) us) (EP X pins σ Q) X.xe s := by
  have hl : us.length = ps.length := by rw [← r.length]; exact F.len _ _ _ _ _ h
  have b := hb s us I.kIn (by rw [List.append_nil]; exact hl)
  rw [List.append_nil] at b
  have e := I.env0
  have e0 : Env0 X.prog X.w X.K X.mg X.base A X.stack s H := ⟨by rw [hfr]; exact e.frames, e.mod, e.bs, e.bsz, e.funs, e.frf, e.hok, e.bare⟩
  refine wpAny_call (codeAny_mono (F.run A X.stack s H ⟨us, []⟩ us vs Q E hr e0 b r h) fun r s' hq => ?_)
  cases r with
  | error e => exact (passAt0 (E := E)) pins H s e s' I hq
  | ok fl =>
    cases fl with
    | ret u => exact I.after hq
    | next => exact False.elim hq
    | brk => exact False.elim hq
    | cont => exact False.elim hq
/-- iter(o): the iterator is tracked -/
theorem own_iter {A : Around} {Q : Value → Shared → Prop} {a dx l : Addr} {fs : List (Str × V)} {zs : List V} (F : FnOkS X.prog X.w X.K X.mg X.base k fi fd ps (spIter X.K C f)) (hr : Room k A) (hfr : A.frames = X.A.frames) (M : Meth X.K C "__iter__" fi) (hb : Binds X.K fd ps [])
    (I : Inv X pins σ H s) (ha : H a = some (.ins C dx fs)) (hf : fs.lookup f = some (.ref l)) (hl : SqL X.K H l zs)
    (h : ∀ it s', H it = Option.none → X.s_0.heap.objs.size ≤ it → Inv X pins σ (upd H it (ItO l it 0)) s' → Q (.ref it) s') : wpAny (model X.prog X.w) A (pyIter (.ref a)) Q X.xe s := by
  obtain ⟨mA, J, _⟩ := ins_get I.hok ha
  obtain ⟨od, J, _⟩ := J.look
  obtain ⟨m, hF⟩ := I.fr
  refine PySem.W.owit_iter hF I.ok.mod.kin J M.at_ M.fn ?_
  refine wpAny_mono (run_spS (us := [.ref a]) (vs := [.ref a]) (Q := fun v H' => ∃ it, v = .ref it ∧ H it = Option.none ∧ s.heap.objs.size ≤ it ∧ H' = upd H it (ItO l it 0)) (E := E0) F hr hfr hb I (.cons rfl .nil) ⟨a, dx, fs, l, zs, rfl, ha, hf, hl, fun it h1 h2 => ⟨it, rfl, h1, h2, rfl⟩⟩) (fun v s' hv => ?_) fun _ _ z => z
  obtain ⟨z, H', I', rz, it, rfl, h1, h2, rfl⟩ := hv
  cases rz
  have eo := itO_get I' upd_same
  have hT : s'.TypeIs (.ref it) "list_iterator" := ⟨_, eo, rfl⟩
  unfold PySem.W.OwitIt
  exact wpAny_specialOf (name := Str.ofString "__next__") hT slot_listiter_next.lookup (h it s' h1 (Nat.le_trans I.sz h2) I')
def iOwn (K : PySem.W.Frag) (C : Addr) (f : Str) (te : TE) : TI := fun σ H R => te σ H fun x H1 => ∃ a dx fs l zs, x = .ref a ∧ H1 a = some (.ins C dx fs) ∧ fs.lookup f = some (.ref l) ∧ SqL K H1 l zs ∧ R (Itl K l) H1
/-- for x in o -/
theorem pi_own {tg e : Expr} (F : FnOkS X.prog X.w X.K X.mg X.base k fi fd ps (spIter X.K C f)) (hr : Room k X.A) (M : Meth X.K C "__iter__" fi) (hb : Binds X.K fd ps []) (he : PE X e te) : PI X tg e (iOwn X.K C f te) := by
  refine ⟨fun pins s σ H R I h => ?_⟩
  refine thn (he.run pins s σ H _ I h) fun v s1 ⟨x, H1, I1, r1, a, dx, fs, l, zs, ex, ha, hf, hl, q⟩ => ?_
  subst ex
  cases r1
  refine own_iter F hr rfl M hb I1 ha hf hl fun it s' h1 h2 I' => ?_
  have hi : upd H1 it (ItO l it 0) it = some (ItO l it 0) := upd_same
  have eo := itO_get I' hi
  have I2 := inv_drop (φ := fun h => h.get? it = some (GNX.itObj l 0)) I' hi
  have fp := inv_fp I' hi h2
  rw [show dropH (upd H1 it (ItO l it 0)) it = H1 from dropH_upd h1] at fp I2
  refine ⟨it, [it], _, _, H1, rfl, I2, turn_list l it, ⟨_, eo, rfl, rfl⟩, fun b hb => ?_, q⟩
  have e : b = it := by simpa using hb
  rw [e]
  exact fp

/-! ### list(o) -/
theorem run_sp0 {A : Around} {Q : VK} {us : List Value} {vs : List V} {E : XK} {sp : Sp} {Ex : Value → Shared → Prop} (F : FnOk X.prog X.w X.K X.mg X.base CX0 k fi fd ps sp) (hr : Room k A) (hfr : A.frames = X.A.frames) (hb : Binds X.K fd ps [])
    (I : Inv X pins σ H s) (r : Vals vs us) (h : sp vs H Q E) : wpAny (model X.prog X.w) A (call (.ref fi) us) (EP X pins σ Q) Ex s := by
  have hl : us.length = ps.length := by rw [← r.length]; exact F.len _ _ _ _ h
  have b := hb s us I.kIn (by rw [List.append_nil]; exact hl)
  rw [List.append_nil] at b
  have e := I.env0
  have e0 : Env0 X.prog X.w X.K X.mg X.base A X.stack s H := ⟨by rw [hfr]; exact e.frames, e.mod, e.bs, e.bsz, e.funs, e.frf, e.hok, e.bare⟩
  refine wpAny_call (codeAny_mono (F.run A X.stack s H ⟨us, []⟩ us vs Q E hr e0 b r h) fun r s' hq => ?_)
  cases r with
  | error e => exact False.elim hq
  | ok fl =>
    cases fl with
    | ret u => exact I.after hq
    | next => exact False.elim hq
    | brk => exact False.elim hq
    | cont => exact False.elim hq
variable {fl : Addr} {fdl : FuncData} {psl : List Str} {spl : Sp}
theorem if_yes {α : Type} {M : Model} {A : Around} {E : Value → Shared → Prop} {s : Shared} {c : Bool} {a b : Sem α} {Q : α → Shared → Prop} (hc : c = true) (h : wpAny M A a Q E s) : wpAny M A (if c = true then a else b) Q E s := by
  subst hc; rw [if_pos rfl]; exact h
theorem own_hintL {A : Around} {Q : Bool → Shared → Prop} {a dx : Addr} {fs : List (Str × V)} (F : FnOk X.prog X.w X.K X.mg X.base CX0 k fl fdl psl spl) (hr : Room (k + 1) A) (hfr : A.frames = X.A.frames) (M : Meth X.K C "__len__" fl) (hb : Binds X.K fdl psl [])
    (I : Inv X pins σ H s) (ha : H a = some (.ins C dx fs)) (hsp : spl [.ref a] H (fun v H' => ∃ n : Int, v = .int n ∧ 0 ≤ n ∧ n < 100000 ∧ Evl.Ex H H') E0)
    (h : ∀ b s' H', Evl.Ex H H' → Inv X pins σ H' s' → Q b s') : wpAny (model X.prog X.w) A (Builtin.List.listLengthHint (.ref a)) Q X.xe s := by
  obtain ⟨mA, J, _⟩ := ins_get I.hok ha
  obtain ⟨od, J, _⟩ := J.look
  obtain ⟨m, hF⟩ := I.fr
  unfold Builtin.List.listLengthHint
  refine wpAny_bind (wpAny_bind (J.type.here ((PySem.W.looks_findIn I.kIn M.at_).here ?_)))
  refine PySem.W.KFB.if_not rfl ?_
  refine if_yes rfl ?_
  refine wpAny_bind (wpAny_rule ?_)
  refine wpAny_bind (wpAny_attempt ?_)
  refine PySem.W.len_K hF I.ok.mod.kin J M.at_ M.fn ?_
  refine wpAny_mono (run_sp0 (us := [.ref a]) (vs := [.ref a]) F hr.in1 hfr hb I (.cons rfl .nil) hsp) (fun v s' hv => ?_) fun _ _ z => z
  · obtain ⟨z, H', I', rz, n, rfl, h0, h1, h2⟩ := hv
    obtain ⟨t, rfl⟩ : ∃ t, v = .int n t := rz
    refine ⟨⟨h0, by omega⟩, ?_⟩
    refine wpAny_bind (m := asInt? (.int n _)) (wpAny_pure ?_)
    refine PySem.W.KFB.if_not (notLongL (by rw [sizeLine_eq]; omega)) ?_
    exact wpAny_pure (h _ _ _ h2 (I'.tok _))
/-- the rest of the list at l goes into the list at q -/
theorem iter_loop {A1 : Around} {it l q : Addr} {zs : List V} {res : Value} {Rs : Result → Shared → Prop} {H0 : Hp} (hh : A1.in1.handled = none) (hit : H0 it = Option.none) (hq : H0 q = Option.none) (hne : q ≠ it) (hyo : X.s_0.heap.objs.size ≤ it)
    (hl : SqL X.K H0 l zs) (hz : zs.length ≤ 100000) (hdone : ∀ s, Inv X pins σ (upd H0 q (.lst zs)) s → Rs (.ok (.ret res)) s) :
    ∀ (m i : Nat) (s : Shared), m = zs.length - i → i ≤ zs.length → Inv X pins σ (upd (upd H0 q (.lst (zs.take i))) it (ItO l it i)) s →
      codeAny (model X.prog X.w) A1 (.builtin "list.extend.loop" ⟨[.ref q, .ref it, res], []⟩) Rs s := by
  have ex : ∀ i, Evl.Ex H0 (upd (upd H0 q (.lst (zs.take i))) it (ItO l it i)) := fun i => Evl.Ex.mut (Evl.Ex.mut (Evl.Ex.refl _) hq) hit
  intro m
  induction m with
  | zero =>
    intro i s hm hi I
    have : i = zs.length := by omega
    subst this
    refine codeAny_builtin PySem.F.entry_extend_loop ?_
    rw [Around.under_plainId PySem.F.plain_extend_loop _]
    show wpAny _ A1.in1 (pyNext (.ref it) >>= _) _ _ s
    have e1 : upd (upd H0 q (.lst (zs.take zs.length))) it (ItO l it zs.length) it = some (ItO l it zs.length) := upd_same
    have eo := itO_get I e1
    obtain ⟨its, rv, pl, _⟩ := I.list (Evl.ex_l (ex zs.length) hl)
    refine wpAny_bind (wpAny_pyNext_list_end hh ⟨_, eo, rfl, rfl⟩ pl.isList (i := zs.length) ?_ fun h' hE => ?_)
    · rw [List.getElem?_toArray]
      exact rv.none_of (by simp)
    · have I2 := inv_drop (φ := fun h => h.get? it = some (GNX.itObj l zs.length)) I e1
      have fp := inv_fp I e1 hyo
      have hn : upd H0 q (.lst (zs.take zs.length)) it = Option.none := by rw [upd_ne (Ne.symm hne)]; exact hit
      rw [show dropH (upd (upd H0 q (.lst (zs.take zs.length))) it (ItO l it zs.length)) it = upd H0 q (.lst (zs.take zs.length)) from dropH_upd hn, List.take_length] at fp I2
      have I3 := I2.turnedL (h' := h') (t' := s.toks) (ch := [it]) (fun b o hb e => hE b o (by simpa using hb) e) (fun b hb => by
        have : b = it := by simpa using hb
        rw [this]; exact fp)
      exact wpAny_pure (hdone _ I3)
  | succ m ih =>
    intro i s hm hi I
    have hlt : i < zs.length := by omega
    refine codeAny_builtin PySem.F.entry_extend_loop ?_
    rw [Around.under_plainId PySem.F.plain_extend_loop _]
    show wpAny _ A1.in1 (pyNext (.ref it) >>= _) _ _ s
    have e1 : upd (upd H0 q (.lst (zs.take i))) it (ItO l it i) it = some (ItO l it i) := upd_same
    have eo := itO_get I e1
    obtain ⟨its, rv, pl, _⟩ := I.list (Evl.ex_l (ex i) hl)
    obtain ⟨u, hu, ru⟩ := rv.get (show zs[i]? = some zs[i] from List.getElem?_eq_getElem hlt)
    have hT : s.TypeIs (.ref it) "list_iterator" := ⟨_, eo, rfl⟩
    refine wpAny_bind ?_
    unfold pyNext
    refine wpAny_bind (wpAny_attempt (wpAny_callSpecial?_slot (name := Str.ofString "__next__") hT slot_listiter_next (wpAny_call_entry slot_listiter_next hT entry_listiter_next ?_ (args_listiter_next _))))
    refine GNX.next_item eo pl.isList (by rw [List.getElem?_toArray]; exact hu) fun h' e' sb => ?_
    refine wpAny_pure ?_
    have mu : Mut (upd (upd H0 q (.lst (zs.take i))) it (ItO l it i) it) := by rw [e1]; exact True.intro
    have I2 : Inv X pins σ (upd (upd (upd H0 q (.lst (zs.take i))) it (ItO l it i)) it (ItO l it (i + 1))) { s with heap := h' } := I.write (x := it) (e := it) (t' := s.toks) mu (.inl rfl) (fun b o nb z => (sb.2 b nb).trans z) ⟨_, e'⟩ (itO_ok e')
    rw [upd_upd] at I2
    have eq : upd (upd H0 q (.lst (zs.take i))) it (ItO l it (i + 1)) q = some (.lst (zs.take i)) := by rw [upd_ne hne]; exact upd_same
    obtain ⟨z, its2, k2, r2, hl2, e2⟩ := I2.lstM eq
    show wpAny _ A1.in1 (updateSeq q (·.push u) >>= _) _ _ _
    have hlen : (zs.take i).length = i := by rw [List.length_take]; omega
    refine wpAny_bind (wpAny_updateSeq e2 rfl (wpAny_pure ⟨plainId_quiet PySem.F.plain_extend_loop _, ?_⟩) (by rw [List.size_toArray, sizeLine_eq]; omega) (by show (its2.toArray.push u).size ≤ sizeLine + 1; rw [Array.size_push, List.size_toArray, sizeLine_eq]; omega))
    have I3 := I2.lset (f := (·.push u)) (its' := its2 ++ [u]) (ys := zs.take i ++ [zs[i]]) (t' := s.toks) eq e2 (by simp) (r2.append (.cons ru .nil)) (by rw [List.length_append, List.length_singleton, sizeLine_eq]; omega)
    have eH : upd (upd (upd H0 q (.lst (zs.take i))) it (ItO l it (i + 1))) q (.lst (zs.take i ++ [zs[i]])) = upd (upd H0 q (.lst (zs.take (i + 1)))) it (ItO l it (i + 1)) := by
      funext b
      by_cases h1 : b = q
      · subst h1; rw [upd_same, upd_ne hne, upd_same, List.take_succ_eq_append_getElem hlt]
      · rw [upd_ne h1]
        by_cases h2 : b = it
        · subst h2; rw [upd_same, upd_same]
        · rw [upd_ne h2, upd_ne h2, upd_ne h1, upd_ne h1]
    rw [eH] at I3
    exact ih (i + 1) _ (by omega) (by omega) I3
/-- q.extend(o), q a new list -/
theorem own_extendI {A1 : Around} {a q l dx : Addr} {fs : List (Str × V)} {zs : List V} {res : Value} {Rs : Result → Shared → Prop} {H0 : Hp} (hh : A1.in1.handled = none) (hr : Room (k + 1) A1) (hfr : A1.frames = X.A.frames)
    (F : FnOkS X.prog X.w X.K X.mg X.base k fi fd ps (spIter X.K C f)) (M : Meth X.K C "__iter__" fi) (hb : Binds X.K fd ps [])
    (Fl : FnOk X.prog X.w X.K X.mg X.base CX0 k fl fdl psl spl) (Ml : Meth X.K C "__len__" fl) (hbl : Binds X.K fdl psl [])
    (ha : H0 a = some (.ins C dx fs)) (hf : fs.lookup f = some (.ref l)) (hl : SqL X.K H0 l zs) (hz : zs.length ≤ 100000) (hq : H0 q = Option.none) (hQ : upd H0 q (.lst []) = H)
    (hsp : ∀ H1, Evl.Ex H0 H1 → spl [.ref a] H1 (fun v H' => ∃ n : Int, v = .int n ∧ 0 ≤ n ∧ n < 100000 ∧ Evl.Ex H1 H') E0)
    (I : Inv X pins σ H s) (hdone : ∀ H2 s, Evl.Ex H0 H2 → H2 q = Option.none → Inv X pins σ (upd H2 q (.lst zs)) s → Rs (.ok (.ret res)) s) :
    wpAny (model X.prog X.w) A1 (Builtin.List.listExtendWith (.ref q) (.ref a) res)
      (fun fin s' => match fin with | .done f => Rs (.ok f) s' | .again c' => c'.quiet = true ∧ ∀ A2 : Around, A2.in1.handled = none → codeAny (model X.prog X.w) A2 c' Rs s') X.xe s := by
  subst hQ
  have hne : q ≠ a := fun z => by rw [z, ha] at hq; cases hq
  have ha' : upd H0 q (.lst []) a = some (.ins C dx fs) := by rw [upd_ne (Ne.symm hne)]; exact ha
  obtain ⟨mA, J, _⟩ := ins_get I.hok ha'
  obtain ⟨od, J, _⟩ := J.look
  unfold Builtin.List.listExtendWith
  refine wpAny_bind (J.type.here ?_)
  have h1 : Builtin.List.listSameRef (.ref q) (.ref a) = false := by simp [Builtin.List.listSameRef, hne]
  have h2 : (Value.ref C == Value.type "list") = false := rfl
  have h3 : (Value.ref C == Value.type "tuple") = false := rfl
  simp only [h1, h2, h3, Bool.or_false, Bool.false_eq_true, if_false]
  have e0q : Evl.Ex H0 (upd H0 q (.lst [])) := Evl.Ex.new hq
  refine wpAny_bind (own_iter F (hr.mono (Nat.le_succ _)) hfr M hb I ha' hf (Evl.ex_l e0q hl) fun it s' hit hyo I' => ?_)
  have hqi : q ≠ it := fun z => by rw [← z, upd_same] at hit; cases hit
  have hit0 : H0 it = Option.none := by rw [upd_ne (Ne.symm hqi)] at hit; exact hit
  have e0i : Evl.Ex H0 (upd (upd H0 q (.lst [])) it (ItO l it 0)) := Evl.Ex.mut e0q hit0
  refine wpAny_bind (wpAny_holding (own_hintL Fl hr hfr Ml hbl I' (e0i a _ ha) (hsp _ e0i) fun b s2 H3 e3 I2 => ?_))
  have eq0 : upd (upd H0 q (.lst [])) it (ItO l it 0) q = some (.lst []) := by rw [upd_ne hqi]; exact upd_same
  have eq : H3 q = some (.lst []) := e3 q _ eq0
  have ei : H3 it = some (ItO l it 0) := e3 it _ upd_same
  let H2 : Hp := fun b => if b = q then Option.none else if b = it then Option.none else H3 b
  have g1 : H2 q = Option.none := if_pos rfl
  have g2 : H2 it = Option.none := by show (if it = q then Option.none else if it = it then Option.none else H3 it) = _; rw [if_neg (Ne.symm hqi), if_pos rfl]
  have g3 : upd (upd H2 q (.lst [])) it (ItO l it 0) = H3 := by
    funext b
    by_cases b1 : b = it
    · subst b1; rw [upd_same, ei]
    · rw [upd_ne b1]
      by_cases b2 : b = q
      · subst b2; rw [upd_same, eq]
      · rw [upd_ne b2]
        show (if b = q then Option.none else if b = it then Option.none else H3 b) = _
        rw [if_neg b2, if_neg b1]
  have g4 : Evl.Ex H0 H2 := fun b o hb => by
    have b1 : b ≠ it := fun z => by rw [z, hit0] at hb; cases hb
    have b2 : b ≠ q := fun z => by rw [z, hq] at hb; cases hb
    show (if b = q then Option.none else if b = it then Option.none else H3 b) = _
    rw [if_neg b2, if_neg b1]
    exact e3 b o (e0i b o hb)
  have go : ∀ s3, Inv X pins σ H3 s3 → ∀ A2 : Around, A2.in1.handled = none → codeAny (model X.prog X.w) A2 (.builtin "list.extend.loop" ⟨[.ref q, .ref it, res], []⟩) Rs s3 := fun s3 I3 A2 hA => iter_loop hA g2 g1 hqi hyo (Evl.ex_l g4 hl) hz (fun s I => hdone H2 s g4 g1 I) zs.length 0 s3 (by omega) (by omega) (by rw [List.take_zero, g3]; exact I3)
  refine wpAny_ite_split (fun _ => ?_) (fun _ => wpAny_pure ⟨plainId_quiet PySem.F.plain_extend_loop _, go s2 I2⟩)
  refine wpAny_bind (wpAny_rule ?_)
  refine wpAny_bind ?_
  show wpAny _ _ (updateSeq q (·.push .none) >>= fun _ => updateSeq q (·.pop)) _ _ _
  obtain ⟨z, its, k', r3, hl3, e3⟩ := I2.lstM eq
  cases r3
  refine wpAny_bind (wpAny_updateSeq e3 rfl ?_)
  have I4 := I2.lset (f := (·.push Value.none)) (its' := [Value.none]) (ys := [.non]) (t' := s2.toks) eq e3 (by simp) (.cons rfl .nil) (by rw [List.length_singleton, sizeLine_eq]; decide)
  obtain ⟨z4, its4, k4, r4, hl4, e4⟩ := I4.lstM upd_same
  obtain ⟨u4, rfl, ru4⟩ := r4.one
  refine wpAny_updateSeq e4 rfl ?_ (by show 1 ≤ sizeLine; rw [sizeLine_eq]; decide) (by show 0 ≤ sizeLine + 1; exact Nat.zero_le _)
  have I5 := I4.lset (f := (·.pop)) (its := [u4]) (its' := []) (ys := []) (t' := s2.toks) upd_same e4 (by rfl) .nil (Nat.zero_le _)
  rw [upd_upd] at I5
  have hH : upd H3 q (.lst []) = H3 := by
    funext b
    by_cases hb : b = q
    · rw [hb, upd_same, eq]
    · rw [upd_ne hb]
  rw [hH] at I5
  exact wpAny_pure ⟨plainId_quiet PySem.F.plain_extend_loop _, go _ I5⟩
/-- list(o) -/
def rOwnI (K : PySem.W.Frag) (C : Addr) (f : Str) (spl : Sp) : List V → Hp → VK → Prop := fun xs H Q => ∃ a dx fs l zs, xs = [.ref a] ∧ H a = some (.ins C dx fs) ∧ fs.lookup f = some (.ref l) ∧ SqL K H l zs ∧ zs.length ≤ 100000 ∧
  (∀ H1, Evl.Ex H H1 → spl [.ref a] H1 (fun v H' => ∃ n : Int, v = .int n ∧ 0 ≤ n ∧ n < 100000 ∧ Evl.Ex H1 H') E0) ∧ ∀ q H2, H q = Option.none → Evl.Ex H H2 → H2 q = Option.none → Q (.ref q) (upd H2 q (.lst zs))
theorem call_listOwnI (hc : X.calm = true) (hr : Room (k + 3) X.A) (F : FnOkS X.prog X.w X.K X.mg X.base k fi fd ps (spIter X.K C f)) (M : Meth X.K C "__iter__" fi) (hb : Binds X.K fd ps [])
    (Fl : FnOk X.prog X.w X.K X.mg X.base CX0 k fl fdl psl spl) (Ml : Meth X.K C "__len__" fl) (hbl : Binds X.K fdl psl []) : CallR X (.type "list") (rOwnI X.K C f spl) := by
  intro pins s σ H xs us Q I rv h
  obtain ⟨a, dx, fs, l, zs, rfl, ha, hf, hl, hz, hsp, hQ⟩ := h
  obtain ⟨u, rfl, ru⟩ := rv.one
  cases ru
  refine callType_codes (Q₁ := fun obj s₁ => obj = .ref s.heap.objs.size ∧ s₁ = { s with heap := s.heap.push { cls := .type "list", data := .seq #[] } }) PySem.F.called_list (PySem.F.typeCall_list_1 _) PySem.F.entry_list_init
    (code_list_new _ ⟨rfl, rfl⟩) fun obj s₁ h₁ => ?_
  obtain ⟨rfl, rfl⟩ := h₁
  have hS : (s.heap.push { cls := .type "list", data := .seq #[] }).get? s.heap.objs.size = some { cls := .type "list", data := .seq #[] } := Heap.get?_push_size _ rfl
  refine ⟨⟨_, hS, rfl⟩, PySem.F.args_list_init_2 _ _, ?_⟩
  have fr : H s.heap.objs.size = none := I.hok.fresh (Nat.le_refl _)
  have I1 : Inv X pins σ (upd H s.heap.objs.size (.lst [])) { s with heap := s.heap.push { cls := .type "list", data := .seq #[] } } := I.lnew (its := []) (t' := s.toks) .nil (Nat.zero_le _)
  show wpAny _ _ (do let old ← Builtin.List.listItems (.ref s.heap.objs.size); Builtin.List.listUpdate (.ref s.heap.objs.size) (fun _ => #[]); letGo old.toList.reverse; Builtin.List.listExtendWith (.ref s.heap.objs.size) (.ref a) .none) _ _ _
  refine wpAny_bind ?_
  unfold Builtin.List.listItems
  refine wpAny_bind (wpAny_seqItems hS rfl (wpAny_pure ?_))
  show wpAny _ _ (updateSeq s.heap.objs.size (fun _ => #[]) >>= fun _ => letGo (#[] : Array Value).toList.reverse >>= fun _ => Builtin.List.listExtendWith (.ref s.heap.objs.size) (.ref a) .none) _ _ _
  refine wpAny_bind (wpAny_updateSeq hS rfl ?_)
  have I2 := I1.lset (f := fun _ => #[]) (its := []) (its' := []) (ys := []) (t' := s.toks) upd_same hS rfl .nil (Nat.zero_le _)
  rw [upd_upd] at I2
  refine wpAny_bind (wpAny_letGo ?_)
  have hd := I.ok.hd hc
  refine wpAny_mono (own_extendI (A1 := X.A.in1.in1) (Rs := wants (fun r s₂ => r = .none ∧ EP X pins σ Q (.ref s.heap.objs.size) s₂) X.xe) hd hr.in1.in1 rfl F M hb Fl Ml hbl ha hf hl hz fr rfl hsp I2
    (fun H2 s' e2 n2 I' => ⟨rfl, .ref s.heap.objs.size, _, I', rfl, hQ _ H2 fr e2 n2⟩)) (fun fin s' hfin => ?_) fun e s' he => he
  cases fin with
  | done f => exact hfin
  | again c => exact ⟨hfin.1, hfin.2 _ hd⟩
/-- what collects the items of o -/
theorem collect_own {A : Around} {a l dx : Addr} {fs : List (Str × V)} {zs : List V} {Q : List Value → Shared → Prop} (hh : A.handled = none) (hr : Room (k + 3) A) (hfr : A.frames = X.A.frames)
    (F : FnOkS X.prog X.w X.K X.mg X.base k fi fd ps (spIter X.K C f)) (M : Meth X.K C "__iter__" fi) (hb : Binds X.K fd ps [])
    (Fl : FnOk X.prog X.w X.K X.mg X.base CX0 k fl fdl psl spl) (Ml : Meth X.K C "__len__" fl) (hbl : Binds X.K fdl psl [])
    (ha : H a = some (.ins C dx fs)) (hf : fs.lookup f = some (.ref l)) (hl : SqL X.K H l zs) (hz : zs.length ≤ 100000)
    (hsp : ∀ H1, Evl.Ex H H1 → spl [.ref a] H1 (fun v H' => ∃ n : Int, v = .int n ∧ 0 ≤ n ∧ n < 100000 ∧ Evl.Ex H1 H') E0)
    (I : Inv X pins σ H s) (h : ∀ its s' H', Evl.Ex H H' → Inv X pins σ H' s' → Vals zs its → Q its s') : wpAny (model X.prog X.w) A (collect (.ref a)) Q X.xe s := by
  unfold collect
  refine wpAny_bind (wpAny_runValue (codeAny_builtin PyProof.Rows.entry_proto_collect' ?_))
  show wpAny _ _ (do again (.builtin "list.__iadd__" ⟨[← newList [], .ref a], []⟩)) _ _ s
  have fr : H s.heap.objs.size = none := I.hok.fresh (Nat.le_refl _)
  refine wpAny_bind (wpAny_newList (wpAny_pure ⟨Code.quiet_builtin _ (by decide +kernel), codeAny_builtin PyProof.Rows.entry_list_iadd' ?_⟩))
  have I1 : Inv X pins σ (upd H s.heap.objs.size (.lst [])) { s with heap := s.heap.push { cls := .type "list", data := .seq #[] } } := I.lnew (its := []) (t' := s.toks) .nil (Nat.zero_le _)
  rw [Around.under_plainId PySem.F.plain_list_iadd _]
  show wpAny _ A.in1 (Builtin.List.listExtendWith (.ref s.heap.objs.size) (.ref a) (.ref s.heap.objs.size)) _ _ { s with heap := s.heap.push { cls := .type "list", data := .seq #[] } }
  refine wpAny_mono (own_extendI (A1 := A.in1) (Rs := fun r s' => match r with
    | .ok (.ret v) => wpAny (model X.prog X.w) A (match v with
      | .ref a => do
        let o ← load a
        match o.data with
        | .seq xs _ => pure xs.toList
        | _ => unsupported "internal:collect"
      | _ => unsupported "internal:collect") Q X.xe s'
    | .ok _ => False
    | .error e => X.xe e s') hh (hr.in1.mono (Nat.le_succ _)) hfr F M hb Fl Ml hbl ha hf hl hz fr rfl hsp I1
    (fun H2 s' e2 n2 I' => ?_)) (fun fin s' hfin => ?_) fun e s' he => he
  rotate_left
  · cases fin with
    | done f => cases f <;> exact hfin
    | again c => exact ⟨hfin.1, codeAny_mono (hfin.2 A hh) fun r s' q => by
        cases r with
        | error e => exact q
        | ok fl => cases fl <;> exact q⟩
  · obtain ⟨z, its, k2, r2, hl2, e2'⟩ := I'.lstM upd_same
    show wpAny (model X.prog X.w) A (do
        let o ← load s.heap.objs.size
        match o.data with
        | .seq xs _ => pure xs.toList
        | _ => unsupported "internal:collect") Q X.xe s'
    refine wpAny_bind (wpAny_load e2' ?_)
    show wpAny _ _ (pure its.toArray.toList) Q X.xe _
    rw [show its.toArray.toList = its by simp]
    exact wpAny_pure (h its s' _ (Evl.Ex.mut e2 fr) I' r2)
def rOwnSI (K : PySem.W.Frag) (C : Addr) (f : Str) (spl : Sp) : List V → Hp → VK → Prop := fun xs H Q => ∃ a dx fs l ns, xs = [.ref a] ∧ H a = some (.ins C dx fs) ∧ fs.lookup f = some (.ref l) ∧ SqL K H l (ns.map V.int) ∧ ns.length < 64 ∧
  (∀ H1, Evl.Ex H H1 → spl [.ref a] H1 (fun v H' => ∃ n : Int, v = .int n ∧ 0 ≤ n ∧ n < 100000 ∧ Evl.Ex H1 H') E0) ∧ ∀ (ns' : List Int) q H2, ns'.Perm ns → ns'.Pairwise (· ≤ ·) → Evl.Ex H H2 → H2 q = Option.none → Q (.ref q) (upd H2 q (.lst (ns'.map V.int)))
/-- sorted(o) -/
theorem call_sortedOwnI (hc : X.calm = true) (hr : Room (k + 4) X.A) (F : FnOkS X.prog X.w X.K X.mg X.base k fi fd ps (spIter X.K C f)) (M : Meth X.K C "__iter__" fi) (hb : Binds X.K fd ps [])
    (Fl : FnOk X.prog X.w X.K X.mg X.base CX0 k fl fdl psl spl) (Ml : Meth X.K C "__len__" fl) (hbl : Binds X.K fdl psl []) : CallR X (.builtin "sorted") (rOwnSI X.K C f spl) := by
  intro pins s σ H xs us Q I rv h
  obtain ⟨a, dx, fs, l, ns, rfl, ha, hf, hl, h64, hsp, hQ⟩ := h
  obtain ⟨u, rfl, ru⟩ := rv.one
  cases ru
  have hd := I.ok.hd hc
  refine Calls.call_function_entry PyProof.Rows.kind_sorted PyProof.Rows.plain_sorted PyProof.Rows.entry_sorted (PyProof.Rows.args_sorted1 _) ?_
  unfold Builtin.«sorted»
  refine wpAny_bind (m := checkCount "sorted" 1 1 _) (wpAny_pure ?_)
  refine wpAny_bind (collect_own (A := X.A.in1) hd hr.in1 rfl F M hb Fl Ml hbl ha hf hl (by rw [List.length_map]; omega) hsp I fun its s' H' e' I' rv' => ?_)
  have hlen0 := rv'.length
  rw [List.length_map] at hlen0
  refine wpAny_bind (wpAny_newList ?_ (by rw [← hlen0, sizeLine_eq]; omega))
  have I1 : Inv X pins σ (upd H' s'.heap.objs.size (.lst (ns.map V.int))) { s' with heap := s'.heap.push { cls := .type "list", data := .seq its.toArray } } := I'.lnew (its := its) (t' := s'.toks) rv' (by rw [List.length_map, sizeLine_eq]; omega)
  have hoL : (s'.heap.push { cls := .type "list", data := .seq its.toArray }).get? s'.heap.objs.size = some (PyProof.Rows.seqObj "list" its.toArray 0) := Heap.get?_push_size _ rfl
  have hi := rv'.ints
  refine wpAny_bind (wpAny_holding (wpAny_call_entry PyProof.Rows.slot_list_sort ⟨_, hoL, rfl⟩ PyProof.Rows.entry_list_sort (PyProof.Rows.list_sort_tree (s := { s' with heap := s'.heap.push { cls := .type "list", data := .seq its.toArray } }) hoL hi (by rw [hi.length]; exact h64) fun out ns' a1 a2 a3 => ⟨_, rfl, ?_⟩) (PyProof.Rows.args_list_sort _)))
  refine wpAny_pure ⟨_, rfl, ?_⟩
  obtain ⟨ep, he'⟩ := PyProof.Rows.sortedHeap_at (vs := its) (out := out) hoL
  have hlen : (ns'.map V.int).length ≤ sizeLine := by rw [List.length_map, a2.length_eq]; exact small64 h64
  have fr : H' s'.heap.objs.size = none := I'.hok.fresh (Nat.le_refl _)
  have I2 := I1.write (x := s'.heap.objs.size) (e := s'.heap.objs.size) (o := .lst (ns'.map V.int)) (h' := PyProof.Rows.sortedHeap (s'.heap.push { cls := .type "list", data := .seq its.toArray }) s'.heap.objs.size its out) (t' := s'.toks) (by rw [upd_same]; trivial) (.inl rfl) (fun b u hb hu => by
    rw [PyProof.Rows.sortedHeap_old hb (Heap.lt_size hu)]; exact hu) ⟨_, he'⟩ ⟨hlen, out.toList, ep, vals_of_ints a1, he'⟩
  rw [upd_upd] at I2
  exact ⟨.ref s'.heap.objs.size, _, I2, rfl, hQ ns' _ H' a2 a3 e' fr⟩
end
end L2

namespace Sim
open PySem L2 Evl
section
variable {K : PySem.W.Frag} {σ : L2.St} {G H W : Hp} {te : TE} {α β γ : Type} {R : Rep β} {C : Addr} {ns : List Str} {fl : α → List Pd}
/-- the items of an own iterable, its length asked first -/
def ownL (m : Option Int) (zs : List β) : Option (List β) := m >>= fun n => bif decide (0 ≤ n ∧ n < 100000 ∧ zs.length ≤ 100000) then some zs else none
theorem own_len {flen : α → Option Int} {o : α} {n : Int} {a dx : Addr} {fs : List (Str × V)} {H1 : Hp} (e1 : Ex H H1) (e : Ex G H) (h2 : G a = some (.ins C dx fs)) (h3 : Fl ns (fl o) G fs) (hn : flen o = some n) (h0 : 0 ≤ n) (h1 : n < 100000) :
    PF (aC (rObj C ns fl) aN) rI (fun i => flen i.1) [.ref a] H1 (fun v H' => ∃ n : Int, v = .int n ∧ 0 ≤ n ∧ n < 100000 ∧ Ex H1 H') E0 :=
  ⟨G, (o, ()), n, e.trans e1, ⟨_, _, rfl, ⟨a, dx, fs, rfl, h2, h3⟩, rfl⟩, hn, fun v H2 G2 u r => ⟨n, r, h0, h1, u.hh⟩⟩
theorem rc_ownL {f : Str} {flen : α → Option Int} (i : Nat) (g : α → List β) (hi : ns.findIdx? (fun x => x == f) = some i) (hp : ∀ x, (fl x)[i]? = some (pd (rL R) (g x))) :
    RCL (rOwnI K C f (PF (aC (rObj C ns fl) aN) rI fun i => flen i.1)) (aC (rObj C ns fl) aN) R (fun i => ownL (flen i.1) (g i.1)) := fun vs x z H G hv hz e Q q => by
  obtain ⟨n, hn, hz⟩ := bindS hz
  cases hb : decide (0 ≤ n ∧ n < 100000 ∧ (g x.1).length ≤ 100000) with
  | false => rw [hb] at hz; cases hz
  | true =>
    rw [hb] at hz
    cases hz
    obtain ⟨b1, b2, b3⟩ := of_decide_eq_true hb
    obtain ⟨v, ws, rfl, ⟨a, dx, fs, rfl, h2, h3⟩, rfl⟩ := hv
    obtain ⟨w, hw, l, us, rfl, k2, k3⟩ := pr_get h3.2 (hp x.1)
    refine ⟨a, dx, fs, l, us, rfl, e a _ h2, look_at h3.1 hi hw, Or.inl (Or.inl (e l _ k2)), by rw [k3.length]; exact b3, fun H1 e1 => own_len e1 e h2 h3 hn b1 b2, fun p H2 hp0 e2 hp => ?_⟩
    exact q p _ G hp0 (Up.same e (e2.trans (Ex.new hp))) (wd_new (e.trans e2) hp k3)
theorem rc_ownS {f : Str} {flen : α → Option Int} (i : Nat) (g : α → List Int) (hi : ns.findIdx? (fun x => x == f) = some i) (hp : ∀ x, (fl x)[i]? = some (pd (rL rI) (g x))) :
    RCL (rOwnSI K C f (PF (aC (rObj C ns fl) aN) rI fun i => flen i.1)) (aC (rObj C ns fl) aN) rI (fun i => ownL (flen i.1) (g i.1) >>= fun zs => if zs.length < 64 then some (srtI zs) else none) := fun vs x z H G hv hz e Q q => by
  obtain ⟨zs, hz0, hz⟩ := bindS hz
  obtain ⟨n, hn, hz0⟩ := bindS hz0
  cases hb : decide (0 ≤ n ∧ n < 100000 ∧ (g x.1).length ≤ 100000) with
  | false => rw [hb] at hz0; cases hz0
  | true =>
    rw [hb] at hz0
    cases hz0
    obtain ⟨b1, b2, b3⟩ := of_decide_eq_true hb
    split at hz
    · rename_i hl
      cases hz
      obtain ⟨v, ws, rfl, ⟨a, dx, fs, rfl, h2, h3⟩, rfl⟩ := hv
      obtain ⟨w, hw, l, us, rfl, k2, k3⟩ := pr_get h3.2 (hp x.1)
      have h3' := pr_ints k3
      subst h3'
      refine ⟨a, dx, fs, l, g x.1, rfl, e a _ h2, look_at h3.1 hi hw, Or.inl (Or.inl (e l _ k2)), hl, fun H1 e1 => own_len e1 e h2 h3 hn b1 b2, fun ns' p H2 hpm hs e2 hp => ?_⟩
      have : ns' = srtI (g x.1) := srt_uniq (hpm.trans (srtI_perm _).symm) hs (srtI_sorted _)
      subst this
      have hp0 : H p = none := by
        cases hq : H p with
        | none => rfl
        | some o => rw [e2 p o hq] at hp; cases hp
      exact q p _ G hp0 (Up.same e (e2.trans (Ex.new hp))) (wd_new (e.trans e2) hp (ints_pr _))
    · cases hz
theorem src_own {f : Str} {m : Option α} (i : Nat) (g : α → List β) (h : E te σ G W (rObj C ns fl) m) (hi : ns.findIdx? (fun x => x == f) = some i) (hp : ∀ x, (fl x)[i]? = some (pd (rL R) (g x))) : Src (iOwn K C f te) σ G W R (m >>= fun x => some (g x)) := fun xs hx H e e' k q => by
  obtain ⟨x, hx1, hx⟩ := bindS hx
  cases hx
  refine h x hx1 H e e' _ fun v H1 G1 u r => ?_
  obtain ⟨a, dx, fs, rfl, h2, h3⟩ := r
  obtain ⟨w, hw, l, us, rfl, k2, k3⟩ := pr_get h3.2 (hp x)
  refine ⟨a, dx, fs, l, us, rfl, u.gh a _ h2, look_at h3.1 hi hw, Or.inl (Or.inl (u.gh l _ k2)), q _ H1 G1 u fun i H' e1 => ⟨fun hi => ?_, fun x hx => ?_⟩⟩
  · subst hi; exact ⟨us, Or.inl (Or.inl (e1 l _ k2)), by rw [k3.length]; exact Nat.le_refl _⟩
  · obtain ⟨v, hv, r⟩ := pr_get k3 hx
    refine ⟨⟨us, v, Or.inl (Or.inl (e1 l _ k2)), hv⟩, fun w H2 y => ?_⟩
    obtain ⟨rfl, y⟩ := y
    have := y us (Or.inl (Or.inl (e1 l _ k2)))
    rw [hv] at this
    cases this
    exact ⟨rfl, r⟩
theorem x_forO {G0 H0 : Hp} {ls : List Addr} {cs : Cs} {tz : TS} {D : Ends} {g : TG} {tu : TS} {f : Str} {m : Option α} {o : α} (i : Nat) (gf : α → List β) (w : Wo G0 H0 ls G H cs) (h : E te σ G H (rObj C ns fl) m) (hm : m = some o) (hi : ns.findIdx? (fun x => x == f) = some i) (hp : ∀ x, (fl x)[i]? = some (pd (rL R) (gf x)))
    (P : Nat → Hp → Hp → L2.St → Prop) (hP : ∀ i G' H' σ', P i G' H' σ' → Ex G' H')
    (h0 : ∀ G' H', Wo G0 H0 ls G' H' cs → Ex G G' → P 0 G' H' σ)
    (hs : ∀ G1, Ex G G1 → ∀ i x v σ' G' H', (gf o)[i]? = some x → Ex G1 G' → P i G' H' σ' → R.r G' v x → g v σ' H' fun σ2 H2 => tu { D with nx := fun σ' H' => ∃ G', Ex G1 G' ∧ P (i + 1) G' H' σ', ct := fun σ' H' => ∃ G', Ex G1 G' ∧ P (i + 1) G' H' σ', bk := tz D } σ2 H2)
    (hd : ∀ σ' G' H', Ex G G' → P (gf o).length G' H' σ' → tz D σ' H') : tSeq (tFor (iOwn K C f te) g tu) tz D σ H :=
  h o hm H w.ex (Ex.refl _) _ fun v H1 G1 u r => by
    obtain ⟨a, dx, fs, rfl, k2, k3⟩ := r
    obtain ⟨w', hw, l, vs, rfl, h2, h3⟩ := pr_get k3.2 (hp o)
    refine ⟨a, dx, fs, l, vs, rfl, u.gh a _ k2, look_at k3.1 hi hw, Or.inl (Or.inl (u.gh l _ h2)), for_list (K := K) (a := l) (xs := vs) (fun i σ' H' => ∃ G', Ex G1 G' ∧ P i G' H' σ') ⟨G1, Ex.refl _, h0 G1 H1 (w.up u) u.gg⟩ ?_ ?_ ?_⟩
    · rintro i σ' H' _ ⟨G', e, p⟩
      exact Or.inl (Or.inl (hP _ _ _ _ p l _ (e l _ h2)))
    · rintro i y σ' H' hy ⟨G', e, p⟩
      obtain ⟨x, hx, r⟩ := pr_get' h3 hy
      exact hs G1 u.gg i x y σ' G' H' hx e p (R.mono e r)
    · rintro σ' H' ⟨G', e, p⟩
      rw [h3.length] at p
      exact hd σ' G' H' (u.gg.trans e) p
end
end Sim
namespace Sim
open PySem L2
/-- a method that may speak of how many objects there are -/
def FmS (P : Program) (w : World) (K : PySem.W.Frag) (mg : Str → Option Value) (base : Heap) (k : Nat) (c m : Str) (ps : List Str) (sp : Nat → Sp) : Prop :=
  ∃ fd, FnOkS P w K mg base k (He.ma K (He.ga K c) m) fd ps sp ∧ Binds K fd ps []
theorem fmS_mk {K : PySem.W.Frag} {mg : Str → Option Value} {P : Program} {w : World} {base : Heap} {k : Nat} {c m x qual : Str} {ps : List Str} {sp : Nat → Sp} {fd : FuncData} {params : Arguments} {body : List Stmt} {scope : Scope} (F : FunD K x qual params body scope [] [] (He.ma K (He.ga K c) m) fd)
    (hb : ∀ (kV doc pm : Value) (an : Option Addr) (cdv ct : Value) (us : List Value), us.length = ps.length → bindArgs (PySem.W.fnOf x qual params body scope .none kV doc pm an cdv ct) ⟨us, []⟩ = pure (ps.zip us))
    (h : FnOkS P w K mg base k (He.ma K (He.ga K c) m) fd ps sp) : FmS P w K mg base k c m ps sp := ⟨fd, h, F.bindsN hb⟩
end Sim

set_option maxHeartbeats 2000000
/-! a class with slots -/
namespace L2
open PySem PySem.Spec PyProof.Rows SlX
section
variable {X : Cx} {CX : CXT} {k : Nat} {f C : Addr} {fd : FuncData} {ps : List Str} {sp : Sp} {pins : List (Addr × Obj)} {σ : St} {H : Hp} {s : Shared} {ta tb : TE}
theorem fnR_of (F : FnOk X.prog X.w X.K X.mg X.base CX k f fd ps sp) (hb : Binds X.K fd ps []) : FnR X.prog X.w X.K X.mg X.base CX k f sp :=
  (F.raw hb .nil).imp fun vs H Q E h => by rw [List.append_nil]; exact h
/-- what stands right of an own comparison of a slotted instance -/
def NFsl (K : PySem.W.Frag) (C : Addr) (H : Hp) (y : V) : Prop := (∃ b dy ws, y = .ref b ∧ Slt H b C dy ws) ∨ ∃ t, TyX K H y t ∧ PySem.W.subIn K t (.ref C) = some false
theorem NFsl.looks {y : V} {u : Value} (h : NFsl X.K C H y) (I : Inv X pins σ H s) (ry : RelV y u) : ∃ tb, PySem.W.Looks (model X.prog X.w) s.heap (typeOf u) tb ∧ PySem.W.notFirst X.K C tb = true := by
  rcases h with ⟨b, dy, ws, rfl, hb⟩ | ⟨t, ty, hs⟩
  · cases ry
    obtain ⟨sl, od, r, J, _⟩ := slt_inst I hb
    exact ⟨.ref C, J.type, by simp [PySem.W.notFirst]⟩
  · obtain ⟨P, Z, hp, _⟩ := kit_of I ry ty
    exact ⟨t, Z.ty _ _ I.kIn hp, by simp [PySem.W.notFirst, hs]⟩
def rEqS (K : PySem.W.Frag) (C : Addr) (sp : Sp) : R2 := fun x y H Q => ∃ a dx vs, x = .ref a ∧ Slt H a C dx vs ∧ NFsl K C H y ∧ sp [.ref a, y] H Q E0
theorem op_eqS (F : FnOk X.prog X.w X.K X.mg X.base CX0 k f fd ps sp) (hr : Room k X.A) (M : Meth X.K C "__eq__" f) (hb : Binds X.K fd ps []) : OpR X (compareOp .Eq) (rEqS X.K C sp) := by
  intro pins s σ H x y v u Q I rx ry h
  obtain ⟨a, dx, vs, rfl, ha, hn, q⟩ := h
  cases rx
  obtain ⟨sl, od, r, J, _⟩ := slt_inst I ha
  obtain ⟨tb, lk, nf⟩ := hn.looks I ry
  obtain ⟨m, hF⟩ := I.fr
  show wpAny (model X.prog X.w) X.A (richCompare .Eq (.ref a) u) (EP X pins σ Q) X.xe s
  refine PySem.W.cmp_K (op := .Eq) (tb := tb) hr.units0 hF I.ok.mod.kin J lk nf M.at_ M.fn ?_
  refine wpAny_mono (run_sp (us := [.ref a, u]) (vs := [.ref a, y]) F hr rfl hb passAt0 I (.cons rfl (.cons ry .nil)) q) (fun v s' hv => ?_) fun _ _ z => z
  obtain ⟨z, H', I', rz, qz⟩ := hv
  exact back_ok (rel_ni rz) ⟨z, H', I', rz, qz⟩
end
end L2
namespace Sim
open PySem PySem.Spec PyProof.Rows L2 Evl SlX
abbrev Ps := List (Nat × Pd)
def PsAt (ps : Ps) (G : Hp) (vs : List (Option V)) : Prop := ∀ q ∈ ps, ∃ v, vs[q.1]? = some (some v) ∧ q.2.p G v
theorem PsAt.mono {ps : Ps} {G G' : Hp} {vs : List (Option V)} (e : Ex G G') (h : PsAt ps G vs) : PsAt ps G' vs := fun q hq => by
  obtain ⟨v, h1, h2⟩ := h q hq
  exact ⟨v, h1, q.2.mono e h2⟩
/-- an instance with slots, as data -/
def rSl {α : Type} (C : Addr) (fl : α → Ps) : Rep α := ⟨fun H v x => ∃ a dx vs, v = .ref a ∧ H a = some (SlO a C dx vs) ∧ H dx = some (.xd []) ∧ PsAt (fl x) H vs,
  fun e ⟨a, dx, vs, h1, h2, h3, h4⟩ => ⟨a, dx, vs, h1, e a _ h2, e dx _ h3, h4.mono e⟩⟩
def cN (C dx : Addr) : CP := ⟨fun _ o => o = .ins C dx [], fun _ h => h⟩
def cOw (x : Addr) : CP := ⟨fun _ o => o = .own x, fun _ h => h⟩
def cXd : CP := ⟨fun _ o => o = .xd [], fun _ h => h⟩
def cSl (x C dx : Addr) (ps : Ps) : CP := ⟨fun G o => ∃ vs, o = SlO x C dx vs ∧ PsAt ps G vs, fun e ⟨vs, h1, h2⟩ => ⟨vs, h1, h2.mono e⟩⟩
section
variable {K : PySem.W.Frag} {σ : L2.St} {G0 H0 G H G2 H2 W : Hp} {ls : List Addr} {cs : Cs} {l ld C : Addr} {ta : TA} {te to : TE} {α β γ ι : Type} {R : Rep α} {S : Rep β} {T : Rep γ} {A : AR ι} {D : Ends} {tz : TS} {fl : α → Ps}
theorem nnSl : (rSl C fl).NN := fun ⟨a, _, _, h, _⟩ => by rw [h]; simp
theorem PsAt.put {ps : Ps} {vs : List (Option V)} {n : Nat} {v : V} {q : Pd} (h : PsAt ps G vs) (hn : ∀ p ∈ ps, p.1 ≠ n) (r : q.p G v) : PsAt (ps ++ [(n, q)]) G (putS n v vs) := fun p hp => by
  rcases List.mem_append.mp hp with hp | hp
  · obtain ⟨w, h1, h2⟩ := h p hp
    exact ⟨w, (putS_ne (hn p hp)).mpr h1, h2⟩
  · rw [List.mem_singleton.mp hp]
    exact ⟨v, putS_get n v vs, r⟩
/-- self.f = e, the first slot -/
theorem x_sl1 {i j j2 n : Nat} {f : Str} {p : Addr} {m : Option β} {x : β} (w : Wo G0 H0 ls G H cs) (hc : cs[j]? = some (l, cN C ld)) (hd : cs[j2]? = some (ld, cOw l)) (hi : σ[i]? = some (some (.ref l))) (h : E te σ G H S m) (hm : m = some x) (hC : SCls K C) (hs : Slot1 K C f p n)
    (hj : j ≠ j2) (k : ∀ H2 G2, Wo G0 H0 ls G2 H2 ((cs.set j2 (ld, cXd)).set j (l, cSl l C ld [(n, pd S x)])) → Ex G G2 → tz D σ H2) : tSeq (sSl K (tVar i) te f) tz D σ H :=
  h x hm H w.ex (Ex.refl _) (fun y H1 => tVar i σ H1 fun x H2 => ∃ a C dx p vs i, x = .ref a ∧ Slt H2 a C dx vs ∧ SCls K C ∧ Slot1 K C f p i ∧ tz D σ (slH H2 a C dx (putS i y vs))) fun v H3 G3 u r => by
    have w3 := w.up u
    obtain ⟨_, o3, k2, k3⟩ := w3.w.getAt hc
    subst k3
    refine ⟨.ref l, hi, l, C, ld, p, [], n, rfl, .inl ⟨k2, rfl⟩, hC, hs, ?_⟩
    have w4 := w3.writeAt (cp' := cXd) (o := .xd []) hd rfl
    have hc' : (cs.set j2 (ld, cXd))[j]? = some (l, cN C ld) := by rw [List.getElem?_set_ne (Ne.symm hj)]; exact hc
    exact k _ _ (w4.writeAt (cp' := cSl l C ld [(n, pd S x)]) (o := SlO l C ld (putS n v [])) hc' ⟨_, rfl, fun q hq => by
      rw [List.mem_singleton.mp hq]
      exact ⟨v, putS_get n v [], r⟩⟩) u.gg
/-- self.f = e, a further slot -/
theorem x_slN {i j j2 n : Nat} {f : Str} {p : Addr} {m : Option β} {x : β} {ps : Ps} (w : Wo G0 H0 ls G H cs) (hc : cs[j]? = some (l, cSl l C ld ps)) (hd : cs[j2]? = some (ld, cXd)) (hi : σ[i]? = some (some (.ref l))) (h : E te σ G H S m) (hm : m = some x) (hC : SCls K C) (hs : Slot1 K C f p n)
    (hj : j ≠ j2) (hn : ∀ p ∈ ps, p.1 ≠ n) (k : ∀ H2 G2, Wo G0 H0 ls G2 H2 ((cs.set j2 (ld, cXd)).set j (l, cSl l C ld (ps ++ [(n, pd S x)]))) → Ex G G2 → tz D σ H2) : tSeq (sSl K (tVar i) te f) tz D σ H :=
  h x hm H w.ex (Ex.refl _) (fun y H1 => tVar i σ H1 fun x H2 => ∃ a C dx p vs i, x = .ref a ∧ Slt H2 a C dx vs ∧ SCls K C ∧ Slot1 K C f p i ∧ tz D σ (slH H2 a C dx (putS i y vs))) fun v H3 G3 u r => by
    have w3 := w.up u
    obtain ⟨_, o3, k2, vs, rfl, k3⟩ := w3.w.getAt hc
    obtain ⟨_, o4, d2, d3⟩ := w3.w.getAt hd
    subst d3
    refine ⟨.ref l, hi, l, C, ld, p, vs, n, rfl, .inr ⟨k2, d2⟩, hC, hs, ?_⟩
    have w4 := w3.writeAt (cp' := cXd) (o := .xd []) hd rfl
    have hc' : (cs.set j2 (ld, cXd))[j]? = some (l, cSl l C ld ps) := by rw [List.getElem?_set_ne (Ne.symm hj)]; exact hc
    exact k _ _ (w4.writeAt (cp' := cSl l C ld (ps ++ [(n, pd S x)])) (o := SlO l C ld (putS n v vs)) hc' ⟨_, rfl, k3.put hn r⟩) u.gg
/-- the promise of an __init__ that stores slots -/
def PIs (C : Addr) (A : AR ι) (fl : α → Ps) (f : ι → Option α) : Sp := fun vs H Q _ => ∃ G x dx ws i o, vs = .ref x :: ws ∧ Wd G H [(x, cN C dx), (dx, cOw x)] ∧ A.r G ws i ∧ f i = some o ∧
  ∀ H2 G2, Fr G H G2 H2 [x, dx] → Wd G2 H2 [(x, cSl x C dx (fl o)), (dx, cXd)] → Q .non H2
def PXIs (K : PySem.W.Frag) (C : Addr) (A : AR ι) (fl : α → Ps) (f : ι → Option (Xn ⊕ α)) : Sp := fun vs H Q E => ∃ G x dx ws i r, vs = .ref x :: ws ∧ Wd G H [(x, cN C dx), (dx, cOw x)] ∧ A.r G ws i ∧ f i = some r ∧
  (∀ e, r = .inl e → ∀ d H2 G2, Fr G H G2 H2 [x, dx] → Ex G2 H2 → Xat G2 e d → E (.ref (He.ga K e.cls)) (some d) H2) ∧
  (∀ o, r = .inr o → ∀ H2 G2, Fr G H G2 H2 [x, dx] → Wd G2 H2 [(x, cSl x C dx (fl o)), (dx, cXd)] → Q .non H2)
theorem new_slt {x dx : Addr} (e : Ex G H) (nx : H x = none) (ndx : H dx = none) (ne : dx ≠ x) : Wd G (upd (upd H dx (.own x)) x (.ins C dx [])) [(x, cN C dx), (dx, cOw x)] := by
  have nx' : (upd H dx (.own x)) x = none := by rw [upd_ne ne.symm]; exact nx
  have e1 : Ex G (upd H dx (.own x)) := e.trans (Ex.new ndx)
  exact ((Wd.nil e).new ndx rfl).new nx' rfl
theorem sl_freeze {x dx : Addr} {ps : Ps} (w : Wd G H [(x, cSl x C dx ps), (dx, cXd)]) : ∃ G2, Ex G G2 ∧ Ex G2 H ∧ (∀ a, a ≠ x → a ≠ dx → G a = none → G2 a = none) ∧ ∃ vs, G2 x = some (SlO x C dx vs) ∧ G2 dx = some (.xd []) ∧ PsAt ps G2 vs := by
  obtain ⟨h1, o, h2, vs, rfl, h3⟩ := w.head
  obtain ⟨d1, o2, d2, d3⟩ := w.tail.head
  subst d3
  have ne : dx ≠ x := fun z => by
    have := w.nd
    rw [z] at this
    simp at this
  have e2 : Ex G (upd (upd G dx (.xd [])) x (SlO x C dx vs)) := (Ex.new d1).trans (Ex.new (by rw [upd_ne ne.symm]; exact h1))
  refine ⟨_, e2, fun a u e => ?_, fun a n1 n2 h => by rw [upd_ne n1, upd_ne n2]; exact h, vs, upd_same, by rw [upd_ne ne]; exact upd_same, h3.mono e2⟩
  by_cases q : a = x
  · subst q; rw [upd_same] at e; cases e; exact h2
  · rw [upd_ne q] at e
    by_cases q2 : a = dx
    · subst q2; rw [upd_same] at e; cases e; exact d2
    · rw [upd_ne q2] at e; exact w.ex a u e
theorem e_makeS {f : ι → Option α} {mi : Option ι} {X : XK} (ha : EA ta σ G W A mi) : E (tMake C (PIs C A fl f) [] X ta) σ G W (rSl C fl) (mi >>= f) := fun z hz H e e' Q q => by
  obtain ⟨i, hi, hz⟩ := bindS hz
  refine ha i hi H e e' _ fun vs H1 G1 u1 r1 => ?_
  intro x dx nx ndx ne
  rw [List.append_nil]
  refine ⟨G1, x, dx, vs, i, z, rfl, new_slt u1.gh nx ndx ne, r1, hz, fun H2 G2 fr w2 => ⟨rfl, ?_⟩⟩
  obtain ⟨G3, k1, k2, k3, vs', k4, k5, k6⟩ := sl_freeze w2
  have hh : Ex H1 H2 := fun a o h => by
    have na : a ≠ x := ne_of_none h nx
    have nd : a ≠ dx := ne_of_none h ndx
    exact fr.fr a o (by rw [upd_ne na, upd_ne nd]; exact h) fun z => by simp [na, nd] at z
  have up : Up G1 H1 G3 H2 := ⟨fr.gg.trans k1, k2, hh, fun a h1 h2 => by
    have na : a ≠ x := fun z => by subst z; exact h1 nx
    have nd : a ≠ dx := fun z => by subst z; exact h1 ndx
    exact k3 a na nd (fr.nw a (by rw [upd_ne na, upd_ne nd]; exact h1) h2)⟩
  exact q _ H2 G3 (u1.trans up) ⟨x, dx, vs', rfl, k4, k5, k6⟩
theorem ex_makeS {f : ι → Option (Xn ⊕ α)} {mi : Option ι} {Wx : L2.St → XK} (ha : EA ta σ G W A mi) : EX K (tMakeT C (PXIs K C A fl f) Wx ta) σ G W (rSl C fl) (mi >>= f) (Wx σ) := fun z hz H e e' Q qx q => by
  obtain ⟨i, hi, hz⟩ := bindS hz
  refine ha i hi H e e' _ fun vs H1 G1 u1 r1 => ?_
  intro x dx nx ndx ne
  have hh : ∀ {G2 H2 : Hp}, Fr G1 (upd (upd H1 dx (.own x)) x (.ins C dx [])) G2 H2 [x, dx] → Ex H1 H2 := fun fr a o h => by
    have na : a ≠ x := ne_of_none h nx
    have nd : a ≠ dx := ne_of_none h ndx
    exact fr.fr a o (by rw [upd_ne na, upd_ne nd]; exact h) fun z => by simp [na, nd] at z
  have nn : ∀ {G2 H2 : Hp}, Fr G1 (upd (upd H1 dx (.own x)) x (.ins C dx [])) G2 H2 [x, dx] → ∀ a, H1 a ≠ none → G1 a = none → a ≠ x ∧ a ≠ dx ∧ G2 a = none := fun fr a h1 h2 => by
    have na : a ≠ x := fun z => by subst z; exact h1 nx
    have nd : a ≠ dx := fun z => by subst z; exact h1 ndx
    exact ⟨na, nd, fr.nw a (by rw [upd_ne na, upd_ne nd]; exact h1) h2⟩
  refine ⟨G1, x, dx, vs, i, z, rfl, new_slt u1.gh nx ndx ne, r1, hz, fun xn hx d H2 G2 fr ee xa => ?_, fun o ho H2 G2 fr w2 => ⟨rfl, ?_⟩⟩
  · exact qx xn hx d H2 G2 (u1.trans ⟨fr.gg, ee, hh fr, fun a h1 h2 => (nn fr a h1 h2).2.2⟩) xa
  · obtain ⟨G3, k1, k2, k3, vs', k4, k5, k6⟩ := sl_freeze w2
    exact q o ho _ H2 G3 (u1.trans ⟨fr.gg.trans k1, k2, hh fr, fun a h1 h2 => k3 a (nn fr a h1 h2).1 (nn fr a h1 h2).2.1 (nn fr a h1 h2).2.2⟩) ⟨x, dx, vs', rfl, k4, k5, k6⟩
/-- o.f -/
theorem e_sl {m : Option α} {f : Str} {p : Addr} {n : Nat} (g : α → β) (h : E to σ G W (rSl C fl) m) (hC : SCls K C) (hs : Slot1 K C f p n) (hp : ∀ x, (n, pd S (g x)) ∈ fl x) : E (tSl K to f) σ G W S (m >>= fun x => some (g x)) := fun z hz H e e' Q q => by
  obtain ⟨x, hx, hz⟩ := bindS hz
  cases hz
  refine h x hx H e e' _ fun v H1 G1 u r => ?_
  obtain ⟨a, dx, vs, rfl, h2, h3, h4⟩ := r
  obtain ⟨w, hw, r2⟩ := h4 _ (hp x)
  exact ⟨a, C, dx, p, vs, n, w, rfl, .inr ⟨u.gh a _ h2, u.gh dx _ h3⟩, hC, hs, hw, q w H1 G1 u r2⟩
/-- o.m(..) -/
theorem e_methS {m : Option α} {mi : Option ι} {f : α × ι → Option γ} {X : XK} (h : E to σ G W (rSl C fl) m) (ha : EA ta σ G W A mi) : E (tMethSl C (PF (aC (rSl C fl) A) T f) X to ta) σ G W T (m >>= fun o => mi >>= fun i => f (o, i)) := fun z hz H e e' Q q => by
  obtain ⟨x, hx, hz⟩ := bindS hz
  obtain ⟨y, hy, hz⟩ := bindS hz
  refine h x hx H e e' _ fun v H1 G1 u r => ?_
  obtain ⟨a, dx, us, rfl, h2, h3, h4⟩ := r
  refine ⟨a, dx, us, rfl, .inr ⟨u.gh a _ h2, u.gh dx _ h3⟩, ?_⟩
  refine (ha.mono u.gg (e'.trans u.hh)) y hy H1 u.gh (Ex.refl _) _ fun vs H3 G3 u3 r3 => ?_
  exact ⟨G3, (x, y), z, u3.gh, ⟨.ref a, vs, rfl, ⟨a, dx, us, rfl, u3.gg a _ h2, u3.gg dx _ h3, h4.mono u3.gg⟩, r3⟩, hz, fun v H4 G4 u4 r4 => q v H4 G4 ((u.trans u3).trans u4) r4⟩
theorem el_methS {m : Option α} {mi : Option ι} {f : α × ι → Option (List γ)} {X : XK} (h : E to σ G W (rSl C fl) m) (ha : EA ta σ G W A mi) : EL (tMethSl C (PL (aC (rSl C fl) A) T f) X to ta) σ G W T (m >>= fun o => mi >>= fun i => f (o, i)) := fun z hz H e e' Q q => by
  obtain ⟨x, hx, hz⟩ := bindS hz
  obtain ⟨y, hy, hz⟩ := bindS hz
  refine h x hx H e e' _ fun v H1 G1 u r => ?_
  obtain ⟨a, dx, us, rfl, h2, h3, h4⟩ := r
  refine ⟨a, dx, us, rfl, .inr ⟨u.gh a _ h2, u.gh dx _ h3⟩, ?_⟩
  refine (ha.mono u.gg (e'.trans u.hh)) y hy H1 u.gh (Ex.refl _) _ fun vs H3 G3 u3 r3 => ?_
  exact ⟨G3, (x, y), z, u3.gh, ⟨.ref a, vs, rfl, ⟨a, dx, us, rfl, u3.gg a _ h2, u3.gg dx _ h3, h4.mono u3.gg⟩, r3⟩, hz, fun p H4 G4 hp u4 r4 => q p H4 G4 (fresh_back (u.hh.trans u3.hh) hp) ((u.trans u3).trans u4) r4⟩
/-! own == -/
def Rep.NSl (S : Rep β) (K : PySem.W.Frag) (C : Addr) : Prop := ∀ {H : Hp} {v : V} {y : β}, S.r H v y → NFsl K C H v
theorem nslObj : (rSl C fl).NSl K C := fun ⟨a, dx, vs, h, h2, h3, _⟩ => .inl ⟨a, dx, vs, h, .inr ⟨h2, h3⟩⟩
theorem nslTy {n : String} (k : KTy S n) (h : PySem.W.subIn K (.type n) (.ref C) = some false) : S.NSl K C := fun r => .inr ⟨_, k r, h⟩
theorem rr_eqSl {f : α → β → Option Bool} (hS : S.NSl K C) : RR (rEqS K C (PF (aC (rSl C fl) (aC S aN)) rB fun i => f i.1 i.2.1)) (rSl C fl) S rB f := fun v w x y z H G hv hw hz e Q q => by
  obtain ⟨a, dx, vs, rfl, h2, h3, h4⟩ := hv
  exact ⟨a, dx, vs, rfl, .inr ⟨e a _ h2, e dx _ h3⟩, hS (S.mono e hw), G, (x, y, ()), z, e, ⟨_, _, rfl, ⟨a, dx, vs, rfl, h2, h3, h4⟩, _, _, rfl, hw, rfl⟩, hz, fun u H2 G2 up r => q u H2 G2 up r⟩
/-- isinstance -/
theorem e_isiS {D : Addr} {m : Option α} {b : Bool} (h : E te σ G W (rSl C fl) m) (hC : SCls K C) (hI : SIsi K C) (hk : PySem.W.kitOne K (.ref C) (.ref D) = some b) :
    E (tCB (rIsiSl K (.ref D)) (tCons te (tCons (tC (.ref D)) tNil))) σ G W rB (m >>= fun _ => some b) := fun z hz H e e' Q q => by
  obtain ⟨x, hx, hz⟩ := bindS hz
  cases hz
  refine h x hx H e e' _ fun v H1 G1 u r => ?_
  obtain ⟨a, dx, vs, rfl, h2, h3, _⟩ := r
  exact ⟨a, C, dx, vs, .ref D, _, rfl, rfl, fun w hw => hw, .inr ⟨u.gh a _ h2, u.gh dx _ h3⟩, hC, hI, hk, q _ H1 G1 u rfl⟩
end
/-! facts of the text -/
def sclB (C : Str) (K : PySem.W.Frag) : Bool := PySem.W.plainGet K (He.ga K C) Str.empty && (PySem.W.isClsIn K (He.ga K C) && (PySem.W.plainOver K (He.ga K C) && decide (PySem.W.findIn K (.ref (He.ga K C)) "__setattr__" = some (some (.builtin "object.__setattr__")))))
theorem scl_ok {C : Str} {K : PySem.W.Frag} (h : sclB C K = true) : SCls K (He.ga K C) := by
  obtain ⟨h1, h⟩ := He.ba h
  obtain ⟨h2, h⟩ := He.ba h
  obtain ⟨h3, h4⟩ := He.ba h
  exact ⟨h1, h2, h3, of_decide_eq_true h4⟩
def slotB (C f : Str) (i : Nat) (K : PySem.W.Frag) : Bool := decide (PySem.W.findIn K (.ref (He.ga K C)) f = some (some (.ref (He.ma K (He.ga K C) f)))) && (decide (PySem.W.specialIn K (.ref (He.ma K (He.ga K C) f)) "__get__" = some (some (.builtin "member_descriptor.__get__"))) &&
  (decide (PySem.W.takesIn K (.ref (He.ma K (He.ga K C) f)) = some true) && (decide (PySem.W.typeIn K (.ref (He.ma K (He.ga K C) f)) = some (.type "member_descriptor")) && (decide (PySem.W.slotIn K (He.ma K (He.ga K C) f) (He.ga K C) = some i) && decide (i < 1000)))))
theorem slot_ok {C f : Str} {i : Nat} {K : PySem.W.Frag} (h : slotB C f i K = true) : Slot1 K (He.ga K C) f (He.ma K (He.ga K C) f) i := by
  obtain ⟨h1, h⟩ := He.ba h
  obtain ⟨h2, h⟩ := He.ba h
  obtain ⟨h3, h⟩ := He.ba h
  obtain ⟨h4, h⟩ := He.ba h
  obtain ⟨h5, h6⟩ := He.ba h
  exact ⟨of_decide_eq_true h1, of_decide_eq_true h2, of_decide_eq_true h3, of_decide_eq_true h4, of_decide_eq_true h5, of_decide_eq_true h6⟩
def sisiB (C : Str) (K : PySem.W.Frag) : Bool := decide (PySem.W.findIn K (.ref (He.ga K C)) "__class__" = some (some (.builtin "object.__class__"))) && (decide (PySem.W.specialIn K (.builtin "object.__class__") "__get__" = some (some (.builtin "getset_descriptor.__get__"))) &&
  (decide (PySem.W.takesIn K (.builtin "object.__class__") = some true) && decide (PySem.W.mroIn K (He.ga K C) (.type "object") = some true)))
theorem sisi_ok {C : Str} {K : PySem.W.Frag} (h : sisiB C K = true) : SIsi K (He.ga K C) := by
  obtain ⟨h1, h⟩ := He.ba h
  obtain ⟨h2, h⟩ := He.ba h
  obtain ⟨h3, h4⟩ := He.ba h
  exact ⟨of_decide_eq_true h1, of_decide_eq_true h2, of_decide_eq_true h3, of_decide_eq_true h4⟩
end Sim

/-! cells of any kind; dicts; texts -/
namespace L2
open PySem PySem.Spec PyProof.Rows
section
variable {X : Cx}
def rMulS : R2 := fun x y H Q => ∃ z n, x = .str z ∧ y = .int n ∧ MulOk z n ∧ Q (.str (Txt.mul z n)) H
theorem op_mulS : OpR X (binaryOp .Mult) rMulS := by
  intro pins s σ H x y v u Q I rx ry h
  obtain ⟨z, n, rfl, rfl, hok, q⟩ := h
  obtain ⟨t, rfl⟩ := rx
  obtain ⟨t', rfl⟩ := ry
  exact SB.mul hok fun t2 k => ⟨.str _, H, I.tok _, ⟨_, rfl⟩, q⟩
abbrev rAddS : R2 := fun x y H Q => ∃ i j, x = .str i ∧ y = .str j ∧ i.length + j.length ≤ sizeLine ∧ Q (.str (i ++ j)) H
abbrev rStrI : List V → Hp → VK → Prop := fun xs H Q => ∃ i, xs = [.int i] ∧ i.natAbs.log2 < 1920 ∧ Q (.str (toString i)) H
abbrev rLsD : List V → Hp → VK → Prop := fun xs H Q => ∃ (a : Addr) (kvs : List (Key × V)), xs = [.ref a] ∧ Rd H a (.dK kvs) ∧ ∀ p, H p = none → Q (.ref p) (upd H p (.lst (kvs.map fun kv => kV kv.1)))
end
end L2
namespace Sim
open PySem L2 Evl
/-! ### texts -/
def addS (x y : Str) : Option Str := bif decide (x.length + y.length < 100000) then some (x ++ y) else none
def mulS (z : Str) (n : Int) : Option Str := bif decide (n < 100 ∧ -100 < n ∧ z.length < 1000) then some (Txt.mul z n) else none
def ixS (z : Str) (i : Int) : Option Str := bif decide (z.length < 100000) then (atI z.cps.toList i >>= fun c => some ⟨#[c]⟩) else none
def strI (i : Int) : Option Str := bif decide (i.natAbs < 2 ^ 64) then some (toString i : String) else none
theorem bifO1 {α : Type} {c : Prop} [Decidable c] {m : Option α} {z : α} (h : (bif decide c then m else none) = some z) : c ∧ m = some z := by
  cases hc : decide c with
  | false => rw [hc] at h; cases h
  | true => rw [hc] at h; exact ⟨of_decide_eq_true hc, h⟩
section
variable {K : PySem.W.Frag} {σ : L2.St} {G0 H0 G H G2 H2 W : Hp} {ls : List Addr} {cs : Cs} {l : Addr} {cp' : CP} {ta : TA} {te td ti tx : TE} {α β γ ι κ : Type} {R : Rep α} {S : Rep β} {T : Rep γ} {A : AR ι} {D : Ends} {tz : TS}
theorem rr_addS : RR rAddS rS rS rS (fun x y => addS x y) := fun v w x y z H G hv hw hz e Q q => by
  cases hv; cases hw
  obtain ⟨h, hz⟩ := bifO1 hz
  cases hz
  exact ⟨x, y, rfl, rfl, by rw [sizeLine_eq]; omega, q _ H G (Up.refl e) rfl⟩
theorem rr_mulS : RR rMulS rS rI rS (fun x y => mulS x y) := fun v w x y z H G hv hw hz e Q q => by
  cases hv; cases hw
  obtain ⟨⟨h1, h2, h3⟩, hz⟩ := bifO1 hz
  cases hz
  refine ⟨x, y, rfl, rfl, ⟨?_, fun h4 _ h5 => ?_, fun h4 _ => ?_⟩, q _ H G (Up.refl e) rfl⟩
  · rw [Bool.or_eq_false_iff]; exact ⟨decide_eq_false (by omega), decide_eq_false (by omega)⟩
  · have : (2 ^ 63 - 1 : Int) / y ≥ 1000 := by
      apply (Int.le_ediv_iff_mul_le (by omega)).mpr
      omega
    omega
  · have h6 : x.length * y.toNat ≤ 1000 * 100 := Nat.mul_le_mul (by omega) (by omega)
    exact decide_eq_false (by rw [sizeLine_eq]; omega)
theorem rr_ixS : RR rIxS rS rI rS (fun x y => ixS x y) := fun v w x y z H G hv hw hz e Q q => by
  cases hv; cases hw
  obtain ⟨h, hz⟩ := bifO1 hz
  obtain ⟨c, hc, hz⟩ := bindS hz
  cases hz
  exact ⟨x, y, c, rfl, rfl, by rw [sizeLine_eq]; omega, hc, q _ H G (Up.refl e) rfl⟩
theorem rc_strI : RC rStrI (aC rI aN) rS (fun i => strI i.1) := fun vs i z H G hv hz e Q q => by
  obtain ⟨v, ws, rfl, h1, rfl⟩ := hv
  cases h1
  obtain ⟨h, hz⟩ := bifO1 hz
  cases hz
  refine ⟨i.1, rfl, ?_, q _ H G (Up.refl e) rfl⟩
  by_cases h0 : i.1.natAbs = 0
  · rw [h0]; decide
  · have : i.1.natAbs.log2 < 64 := (Nat.log2_lt h0).mpr h
    omega
/-! ### cells of any kind -/
/-- what stands in such a cell is data once nobody changes it -/
def Fz (cp : β → CP) (S : Rep β) : Prop := ∀ {G G' : Hp} {l : Addr} {o : HO} {x : β}, (cp x).p G o → Ex G G' → G' l = some o → S.r G' (.ref l) x
def EC (te : TE) (σ : L2.St) (G W : Hp) (cp : β → CP) (m : Option β) : Prop :=
  ∀ x, m = some x → ∀ H, Ex G H → Ex W H → ∀ Q : VK, (∀ p H2 G2, H p = none → Up G H G2 H2 → Wd G2 H2 [(p, cp x)] → Q (.ref p) H2) → te σ H Q
variable {cp : β → CP}
theorem frzC {G H G1 H1 : Hp} {p : Addr} {x : β} (F : Fz cp S) (hp : H p = none) (u : Up G H G1 H1) (w : Wd G1 H1 [(p, cp x)]) : ∃ G2, Up G H G2 H1 ∧ S.r G2 (.ref p) x := by
  obtain ⟨h1, o, h2, h3⟩ := w.head
  refine ⟨upd G1 p o, u.frz hp (Ex.new h1) (fun a u' e => ?_) (fun a ne h => by rw [upd_ne ne]; exact h), F h3 (Ex.new h1) upd_same⟩
  by_cases q : a = p
  · subst q; rw [upd_same] at e; cases e; exact h2
  · rw [upd_ne q] at e; exact w.ex a u' e
theorem EC.e {m : Option β} (F : Fz cp S) (h : EC te σ G W cp m) : E te σ G W S m := fun x hx H e e' Q q => h x hx H e e' Q fun p H2 G2 hp u w => by
  obtain ⟨G3, u3, r3⟩ := frzC F hp u w
  exact q _ H2 G3 u3 r3
theorem Wo.newC {p : Addr} {c : CP} (w : Wo G0 H0 ls G H cs) (n : H p = none) (u : Up G H G2 H2) (w2 : Wd G2 H2 [(p, c)]) : Wo G0 H0 ls G2 H2 ((p, c) :: cs) := by
  have n0 : H0 p = none := by
    cases q : H0 p with
    | none => rfl
    | some o => exact absurd n (w.f.st p (by rw [q]; simp))
  have w3 := w.up u
  refine ⟨⟨w3.ex, fun c hc => ?_, ?_⟩, w3.f, fun c hc => ?_⟩
  · rcases List.mem_cons.mp hc with hc | hc
    · subst hc; exact w2.head
    · exact w3.w.at_ c hc
  · refine List.nodup_cons.mpr ⟨fun hm => ?_, w.w.nd⟩
    obtain ⟨c, hc, e⟩ := List.mem_map.mp hm
    obtain ⟨_, o', h2, _⟩ := w.w.at_ c hc
    exact ne_of_none h2 n e
  · rcases List.mem_cons.mp hc with hc | hc
    · subst hc; exact .inr n0
    · exact w.lo c hc
theorem c_c {m : Option β} {x : β} {Q : VK} (w : Wo G0 H0 ls G H cs) (h : EC te σ G H cp m) (hm : m = some x) (k : ∀ p H2 G2, H0 p = none → Wo G0 H0 ls G2 H2 ((p, cp x) :: cs) → Ex G G2 → Q (.ref p) H2) : te σ H Q :=
  h x hm H w.ex (Ex.refl _) Q fun p H2 G2 hp u w2 => k p H2 G2 (by
    cases q : H0 p with
    | none => rfl
    | some o => exact absurd hp (w.f.st p (by rw [q]; simp))) (w.newC hp u w2) u.gg
theorem x_setC {i : Nat} {m : Option β} {x : β} (w : Wo G0 H0 ls G H cs) (h : EC te σ G H cp m) (hm : m = some x) (k : ∀ p H2 G2, H0 p = none → Wo G0 H0 ls G2 H2 ((p, cp x) :: cs) → Ex G G2 → tz D (σ.set i (some (.ref p))) H2) : tSeq (tAsg te (gName i)) tz D σ H :=
  c_c (Q := fun x H1 => gName i x σ H1 (tz D)) w h hm k
theorem x_retC {m : Option β} {x : β} (w : Wo G0 H0 ls G H cs) (h : EC te σ G H cp m) (hm : m = some x) (k : ∀ p H2 G2, H0 p = none → Wo G0 H0 ls G2 H2 ((p, cp x) :: cs) → Ex G G2 → D.rt (.ref p) H2) : tSeq (tRet te) tz D σ H := c_c (Q := D.rt) w h hm k
theorem Wo.rCAt {i : Nat} {x : β} (F : Fz cp S) (w : Wo G0 H0 ls G H cs) (h : cs[i]? = some (l, cp x)) : S.r H (.ref l) x := by
  obtain ⟨h1, o, h2, h3⟩ := w.w.getAt h
  exact F h3 w.ex h2
theorem Wo.freezeC {i : Nat} {x : β} (F : Fz cp S) (w : Wo G0 H0 ls G H cs) (h : cs[i]? = some (l, cp x)) (hl : H0 l = none) : ∃ G2, Wo G0 H0 ls G2 H (cs.eraseIdx i) ∧ Ex G G2 ∧ S.r G2 (.ref l) x := by
  obtain ⟨h1, o, h2, h3⟩ := w.w.getAt h
  refine ⟨upd G l o, ⟨⟨fun a u e => ?_, fun c hc => ?_, ?_⟩, ⟨w.f.gg.trans (Ex.new h1), w.f.fr, fun a k1 k2 => ?_, w.f.st⟩, fun c hc => w.lo c (List.mem_of_mem_eraseIdx hc)⟩, Ex.new h1, F h3 (Ex.new h1) upd_same⟩
  · by_cases q : a = l
    · subst q; rw [upd_same] at e; cases e; exact h2
    · rw [upd_ne q] at e; exact w.ex a u e
  · obtain ⟨k1, o', k2, k3⟩ := w.w.at_ c (List.mem_of_mem_eraseIdx hc)
    have ne : c.1 ≠ l := fun z => by
      have hi : (cs.map (·.1))[i]? = some l := by rw [List.getElem?_map, h]; rfl
      obtain ⟨j, hj, e⟩ := List.mem_iff_getElem.mp hc
      have e : (cs.eraseIdx i)[j]? = some c := by rw [List.getElem?_eq_getElem hj, e]
      rw [List.getElem?_eraseIdx] at e
      split at e
      · rename_i hlt
        have : (cs.map (·.1))[j]? = some l := by rw [List.getElem?_map, e]; exact congrArg some z
        have := nodup_ix w.w.nd hi this
        omega
      · rename_i hlt
        have : (cs.map (·.1))[j + 1]? = some l := by rw [List.getElem?_map, e]; exact congrArg some z
        have := nodup_ix w.w.nd hi this
        omega
    exact ⟨by rw [upd_ne ne]; exact k1, o', k2, c.2.mono (Ex.new h1) k3⟩
  · exact List.Pairwise.sublist ((List.eraseIdx_sublist cs i).map (·.1)) w.w.nd
  · by_cases q : a = l
    · subst q; exact absurd hl k1
    · rw [upd_ne q]; exact w.f.nw a k1 k2
/-- a new cell is handed back -/
def PC {ι β : Type} (A : AR ι) (cp : β → CP) (f : ι → Option β) : Sp := fun vs H Q _ => ∃ G i x, Ex G H ∧ A.r G vs i ∧ f i = some x ∧ ∀ p H2 G2, H p = none → Up G H G2 H2 → Wd G2 H2 [(p, cp x)] → Q (.ref p) H2
def PMC {ι κ β : Type} (A : AR ι) (ci : ι → κ → Cs) (cp : β → CP) (f : ι → κ → Option (β × κ)) : Sp := fun vs H Q _ => ∃ G i k x k', A.r G vs i ∧ Wd G H (ci i k) ∧ f i k = some (x, k') ∧
  ∀ p H2 G2, H p = none → Fr G H G2 H2 ((ci i k).map (·.1)) → Wd G2 H2 ((p, cp x) :: ci i k') → Q (.ref p) H2
abbrev P1C {κ β ι : Type} (A : AR ι) (C : Rep κ) (cp : β → CP) (f : List κ → ι → Option (β × List κ)) : Sp := PMC (aC rA A) (fun i k => [(i.1, cL C k)]) cp (fun i k => f k i.2)
theorem c_p1c {C : Rep κ} {f : List κ → ι → Option (β × List κ)} {vs : List V} {i : Nat} {j : ι} {ys ys' : List κ} {x : β} {Q : VK} {X : XK} (w : Wo G0 H0 ls G H cs) (hc : cs[i]? = some (l, cL C ys)) (hv : A.r G vs j) (hz : f ys j = some (x, ys'))
    (k : ∀ p H2 G2, H0 p = none → Wo G0 H0 ls G2 H2 ((p, cp x) :: cs.set i (l, cL C ys')) → Ex G G2 → Q (.ref p) H2) : P1C A C cp f (.ref l :: vs) H Q X :=
  ⟨G, (l, j), ys, x, ys', ⟨.ref l, vs, rfl, rfl, hv⟩, w.sub1 hc, hz, fun p H2 G2 hp fr w2 => k p H2 G2 (by
    cases q : H0 p with
    | none => rfl
    | some o => exact absurd hp (w.f.st p (by rw [q]; simp))) (w.call1L hc hp fr w2) fr.gg⟩
theorem ec_call {f : ι → Option β} {m : Option ι} {X : XK} (ha : EA ta σ G W A m) : EC (tCall (PC A cp f) [] X ta) σ G W cp (m >>= f) := fun z hz H e e' Q q => by
  obtain ⟨i, hi, hz⟩ := bindS hz
  refine ha i hi H e e' _ fun vs H1 G1 u1 r1 => ?_
  rw [List.append_nil]
  exact ⟨G1, i, z, u1.gh, r1, hz, fun p H2 G2 hp u2 w => q p H2 G2 (fresh_back u1.hh hp) (u1.trans u2) w⟩
/-! ### dicts -/
variable {κ : Type} [DecidableEq κ] {kf : κ → Key}
def Pm (kf : κ → Key) (R : Rep α) (G : Hp) : List (Key × V) → List (κ × α) → Prop := Paired (fun (p : Key × V) (q : κ × α) => p.1 = kf q.1 ∧ R.r G p.2 q.2)
def cM (kf : κ → Key) (R : Rep α) (kvs : List (κ × α)) : CP := ⟨fun G o => ∃ ws, o = .dK ws ∧ Pm kf R G ws kvs, fun e ⟨ws, h1, h2⟩ => ⟨ws, h1, Paired.mapP h2 fun _ _ h => ⟨h.1, R.mono e h.2⟩⟩⟩
theorem fzM : Fz (cM kf R) (rM kf R) := fun ⟨ws, h1, h2⟩ e h => ⟨_, ws, rfl, by rw [h, h1], Paired.mapP h2 fun _ _ h => ⟨h.1, R.mono e h.2⟩⟩
theorem fzL : Fz (cL R) (rL R) := fun ⟨vs, h1, h2⟩ e h => ⟨_, vs, rfl, by rw [h, h1], Paired.mapP h2 fun _ _ h => R.mono e h⟩
theorem ec_dnew : EC tDNewK σ G W (cM kf R) (some []) := fun z hz H e e' Q q => by
  cases hz
  intro p hp
  exact q p (upd H p (.dK [])) G hp (up_new e hp) ((Wd.nil e).new hp ⟨[], rfl, .nil⟩)
def lookM (kvs : List (κ × α)) (k : κ) : Option α := (kvs.find? fun q => decide (q.1 = k)).map (·.2)
def putM (kvs : List (κ × α)) (k : κ) (x : α) : List (κ × α) := if (kvs.any fun q => decide (q.1 = k)) = true then kvs.map (fun q => if q.1 = k then (q.1, x) else q) else kvs ++ [(k, x)]
def putMM (kvs : List (κ × α)) (k : κ) (x : α) : Option (List (κ × α)) := bif decide (kvs.length < 100000) then some (putM kvs k x) else none
abbrev Inj (kf : κ → Key) : Prop := ∀ a b, kf a = kf b → a = b
theorem injS : Inj (Sum.inr : Str → Key) := fun _ _ h => Sum.inr.inj h
theorem injI : Inj (Sum.inl : Int → Key) := fun _ _ h => Sum.inl.inj h
theorem pm_look (hj : Inj kf) (k : κ) : ∀ {ws : List (Key × V)} {kvs : List (κ × α)}, Pm kf R G ws kvs → (lookM kvs k = none ∧ valV ws (kf k) = none) ∨ ∃ v x, lookM kvs k = some x ∧ valV ws (kf k) = some v ∧ R.r G v x
  | _, _, .nil => .inl ⟨rfl, rfl⟩
  | _, _, .cons (a := p) (b := q) h t => by
    by_cases e : q.1 = k
    · exact .inr ⟨p.2, q.2, by simp [lookM, List.find?_cons, e], by rw [valV_pos (by rw [h.1, e])], h.2⟩
    · have e' : ¬ p.1 = kf k := fun z => e (hj _ _ (h.1.symm.trans z))
      have e1 : ∀ kvs : List (κ × α), lookM (q :: kvs) k = lookM kvs k := fun kvs => by unfold lookM; rw [List.find?_cons, decide_eq_false e]
      rw [e1, valV_neg e']
      exact pm_look hj k t
theorem pm_any (hj : Inj kf) (k : κ) : ∀ {ws : List (Key × V)} {kvs : List (κ × α)}, Pm kf R G ws kvs → (ws.any fun q => decide (q.1 = kf k)) = kvs.any fun q => decide (q.1 = k)
  | _, _, .nil => rfl
  | _, _, .cons (a := p) (b := q) h t => by
    rw [List.any_cons, List.any_cons, pm_any hj k t, h.1]
    congr 1
    by_cases e : q.1 = k
    · rw [decide_eq_true e, decide_eq_true (by rw [e])]
    · rw [decide_eq_false e, decide_eq_false fun z => e (hj _ _ z)]
theorem pm_map (hj : Inj kf) (k : κ) {v : V} {x : α} (r : R.r G v x) : ∀ {ws : List (Key × V)} {kvs : List (κ × α)}, Pm kf R G ws kvs → Pm kf R G (ws.map fun q => if q.1 = kf k then (q.1, v) else q) (kvs.map fun q => if q.1 = k then (q.1, x) else q)
  | _, _, .nil => .nil
  | _, _, .cons (a := p) (b := q) h t => by
    refine .cons ?_ (pm_map hj k r t)
    show (if p.1 = kf k then (p.1, v) else p).1 = kf (if q.1 = k then (q.1, x) else q).1 ∧ R.r G (if p.1 = kf k then (p.1, v) else p).2 (if q.1 = k then (q.1, x) else q).2
    by_cases e : q.1 = k
    · rw [if_pos (by rw [h.1, e]), if_pos e]; exact ⟨h.1, r⟩
    · rw [if_neg fun z => e (hj _ _ (h.1.symm.trans z)), if_neg e]; exact h
theorem pm_app : ∀ {ws : List (Key × V)} {kvs : List (κ × α)} {ws' : List (Key × V)} {kvs' : List (κ × α)}, Pm kf R G ws kvs → Pm kf R G ws' kvs' → Pm kf R G (ws ++ ws') (kvs ++ kvs')
  | _, _, _, _, .nil, h => h
  | _, _, _, _, .cons r t, h => .cons r (pm_app t h)
theorem pm_put (hj : Inj kf) {k : κ} {v : V} {x : α} (r : R.r G v x) {ws : List (Key × V)} {kvs : List (κ × α)} (h : Pm kf R G ws kvs) : Pm kf R G (putK ws (kf k) v) (putM kvs k x) := by
  unfold putK putM
  rw [pm_any hj k h]
  split
  · exact pm_map hj k r h
  · exact pm_app h (.cons ⟨rfl, r⟩ .nil)
theorem pm_at {ws : List (Key × V)} {kvs : List (κ × α)} (e : Ex G H) (h : Pm kf R G ws kvs) : Pm kf R H ws kvs := Paired.mapP h fun _ _ h => ⟨h.1, R.mono e h.2⟩
/-- how a key stands -/
structure KyR (kf : κ → Key) (S : Rep κ) : Prop where
  v : ∀ {H : Hp} {v : V} {k : κ}, S.r H v k → v = kV (kf k)
theorem kyS : KyR Sum.inr rS := ⟨fun h => h⟩
theorem kyI : KyR Sum.inl rI := ⟨fun h => h⟩
/-- d[k] = e, d a cell -/
theorem x_putM {a j : Nat} {Sk : Rep κ} {m : Option α} {mk : Option κ} {x : α} {k : κ} {kvs kvs' : List (κ × α)} (ky : KyR kf Sk) (hj : Inj kf) (w : Wo G0 H0 ls G H cs) (hc : cs[j]? = some (l, cM kf R kvs)) (hi : σ[a]? = some (some (.ref l))) (h : E te σ G H R m) (hm : m = some x)
    (h' : E ti σ G H Sk mk) (hm' : mk = some k) (hy : putMM kvs k x = some kvs') (kk : ∀ H2 G2, Wo G0 H0 ls G2 H2 (cs.set j (l, cM kf R kvs')) → Ex G G2 → tz D σ H2) : tSeq (sDPut (tVar a) ti te) tz D σ H :=
  h x hm H w.ex (Ex.refl _) (fun v H1 => tVar a σ H1 fun x H2 => ti σ H2 fun y H3 => ∃ a H4, x = .ref a ∧ DPut H3 a y v H4 ∧ tz D σ H4) fun v H3 G3 u r => by
    have w3 := w.up u
    refine ⟨.ref l, hi, (h'.mono u.gg u.hh) k hm' H3 w3.ex (Ex.refl _) _ fun v' H4 G4 u' r' => ?_⟩
    have w4 := w3.up u'
    obtain ⟨_, o, k2, ws, rfl, k3⟩ := w4.w.getAt hc
    obtain ⟨hl, hy⟩ := bifO1 hy
    cases hy
    rw [ky.v r']
    refine ⟨l, _, rfl, DPut.k k2 (by rw [k3.length, sizeLine_eq]; omega), ?_⟩
    exact kk _ _ (w4.writeAt hc ⟨_, rfl, pm_put hj (R.mono u'.gg r) k3⟩) (u.gg.trans u'.gg)
theorem x_putO {a : Nat} (h : te σ H fun v H1 => tVar a σ H1 fun x H2 => ti σ H2 fun y H3 => ∃ a H4, x = .ref a ∧ DPut H3 a y v H4 ∧ tz D σ H4) : tSeq (sDPut (tVar a) ti te) tz D σ H := h
theorem o_putM {a j : Nat} {Sk : Rep κ} {mk : Option κ} {x : α} {v : V} {k : κ} {kvs kvs' : List (κ × α)} (ky : KyR kf Sk) (hj : Inj kf) (w : Wo G0 H0 ls G H cs) (hc : cs[j]? = some (l, cM kf R kvs)) (hi : σ[a]? = some (some (.ref l))) (r : R.r G v x)
    (h' : E ti σ G H Sk mk) (hm' : mk = some k) (hy : putMM kvs k x = some kvs') (kk : ∀ H2 G2, Wo G0 H0 ls G2 H2 (cs.set j (l, cM kf R kvs')) → Ex G G2 → tz D σ H2) :
    tVar a σ H fun x H2 => ti σ H2 fun y H3 => ∃ a H4, x = .ref a ∧ DPut H3 a y v H4 ∧ tz D σ H4 :=
  ⟨.ref l, hi, h' k hm' H w.ex (Ex.refl _) _ fun v' H4 G4 u' r' => by
    have w4 := w.up u'
    obtain ⟨_, o, k2, ws, rfl, k3⟩ := w4.w.getAt hc
    obtain ⟨hl, hy⟩ := bifO1 hy
    cases hy
    rw [ky.v r']
    refine ⟨l, _, rfl, DPut.k k2 (by rw [k3.length, sizeLine_eq]; omega), ?_⟩
    exact kk _ _ (w4.writeAt hc ⟨_, rfl, pm_put hj (R.mono u'.gg r) k3⟩) u'.gg⟩
/-- d[k] -/
theorem e_dget {Sk : Rep κ} {m : Option (List (κ × α))} {mk : Option κ} (ky : KyR kf Sk) (hj : Inj kf) (h : E td σ G W (rM kf R) m) (h' : E ti σ G W Sk mk) : E (tDGet td ti) σ G W R (m >>= fun d => mk >>= fun k => lookM d k) := fun z hz H e e' Q q => by
  obtain ⟨d, hd, hz⟩ := bindS hz
  obtain ⟨k, hk, hz⟩ := bindS hz
  refine h d hd H e e' _ fun v H1 G1 u r => ?_
  refine (h'.mono u.gg (e'.trans u.hh)) k hk H1 u.gh (Ex.refl _) _ fun v' H2 G2 u2 r2 => ?_
  obtain ⟨a, ws, rfl, k2, k3⟩ := (rM kf R).mono u2.gg r
  rcases pm_look hj k k3 with ⟨e1, _⟩ | ⟨w, x, e1, e2, r3⟩
  · rw [e1] at hz; cases hz
  · rw [e1] at hz
    cases hz
    rw [ky.v r2]
    exact ⟨a, w, rfl, by rw [← e2]; exact DGet.k (u2.gh a _ k2), q w H2 G2 (u.trans u2) r3⟩
/-- d.get(k, x) -/
theorem e_dget2 {Sk : Rep κ} {m : Option (List (κ × α))} {mk : Option κ} {mx : Option α} (ky : KyR kf Sk) (hj : Inj kf) (h : E td σ G W (rM kf R) m) (h' : E ti σ G W Sk mk) (hx : E tx σ G W R mx) :
    E (tDGet2 td ti tx) σ G W R (m >>= fun d => mk >>= fun k => mx >>= fun x => some ((lookM d k).getD x)) := fun z hz H e e' Q q => by
  obtain ⟨d, hd, hz⟩ := bindS hz
  obtain ⟨k, hk, hz⟩ := bindS hz
  obtain ⟨x, hx', hz⟩ := bindS hz
  cases hz
  refine h d hd H e e' _ fun v H1 G1 u r => ?_
  obtain ⟨a, ws, rfl, k2, k3⟩ := r
  refine ⟨a, rfl, .inl ⟨ws, .inl (u.gh a _ k2)⟩, ?_⟩
  refine (h'.mono u.gg (e'.trans u.hh)) k hk H1 u.gh (Ex.refl _) _ fun v' H2 G2 u2 r2 => ?_
  refine (hx.mono (u.gg.trans u2.gg) ((e'.trans u.hh).trans u2.hh)) x hx' H2 u2.gh (Ex.refl _) _ fun v3 H3 G3 u3 r3 => ?_
  rw [ky.v r2]
  refine ⟨_, DGet.k (u3.gh a _ (u3.gg a _ (u2.gg a _ k2))), ?_⟩
  rcases pm_look hj k (pm_at (u2.gg.trans u3.gg) k3) with ⟨e1, e2⟩ | ⟨w, y, e1, e2, r4⟩
  · rw [e1] at q; rw [e2]; exact q v3 H3 G3 ((u.trans u2).trans u3) r3
  · rw [e1] at q; rw [e2]; exact q w H3 G3 ((u.trans u2).trans u3) r4
/-- k in d -/
theorem e_din {Sk : Rep κ} {m : Option (List (κ × α))} {mk : Option κ} (ky : KyR kf Sk) (hj : Inj kf) (h' : E ti σ G W Sk mk) (h : E td σ G W (rM kf R) m) : E (tDIn ti td) σ G W rB (mk >>= fun k => m >>= fun d => some (lookM d k).isSome) := fun z hz H e e' Q q => by
  obtain ⟨k, hk, hz⟩ := bindS hz
  obtain ⟨d, hd, hz⟩ := bindS hz
  cases hz
  refine h' k hk H e e' _ fun v' H1 G1 u r2 => ?_
  refine (h.mono u.gg (e'.trans u.hh)) d hd H1 u.gh (Ex.refl _) _ fun v H2 G2 u2 r => ?_
  obtain ⟨a, ws, rfl, k2, k3⟩ := r
  rw [ky.v r2]
  refine ⟨a, _, rfl, DGet.k (u2.gh a _ k2), ?_⟩
  rcases pm_look hj k k3 with ⟨e1, e2⟩ | ⟨w, y, e1, e2, r4⟩ <;> (rw [e1] at q; rw [e2]; exact q _ H2 G2 (u.trans u2) rfl)
theorem e_dnotin {Sk : Rep κ} {m : Option (List (κ × α))} {mk : Option κ} (ky : KyR kf Sk) (hj : Inj kf) (h' : E ti σ G W Sk mk) (h : E td σ G W (rM kf R) m) : E (tDNotIn ti td) σ G W rB (mk >>= fun k => m >>= fun d => some (!(lookM d k).isSome)) := fun z hz H e e' Q q => by
  obtain ⟨k, hk, hz⟩ := bindS hz
  obtain ⟨d, hd, hz⟩ := bindS hz
  cases hz
  refine h' k hk H e e' _ fun v' H1 G1 u r2 => ?_
  refine (h.mono u.gg (e'.trans u.hh)) d hd H1 u.gh (Ex.refl _) _ fun v H2 G2 u2 r => ?_
  obtain ⟨a, ws, rfl, k2, k3⟩ := r
  rw [ky.v r2]
  refine ⟨a, _, rfl, DGet.k (u2.gh a _ k2), ?_⟩
  rcases pm_look hj k k3 with ⟨e1, e2⟩ | ⟨w, y, e1, e2, r4⟩ <;> (rw [e1] at q; rw [e2]; exact q _ H2 G2 (u.trans u2) rfl)
/-- list(d) -/
theorem rc_listM {Sk : Rep κ} (hk : ∀ (G : Hp) (k : κ), Sk.r G (kV (kf k)) k) : RCL rLsD (aC (rM kf R) aN) Sk (fun i => some (i.1.map (·.1))) := fun vs i z H G hv hz e Q q => by
  cases hz
  obtain ⟨d, ⟨⟩⟩ := i
  obtain ⟨v, ws, rfl, ⟨a, us, rfl, h2, h3⟩, rfl⟩ := hv
  refine ⟨a, us, rfl, .inl (e a _ h2), fun p hp => q p _ G hp (up_new e hp) (wd_new e hp ?_)⟩
  clear h2 q
  replace h3 : Paired (fun (p : Key × V) (q : κ × α) => p.1 = kf q.1 ∧ R.r G p.2 q.2) us d := h3
  induction h3 with
  | nil => exact .nil
  | cons h t ih =>
    rename_i a1 b1 _ _
    refine .cons ?_ ih
    show Sk.r G (kV a1.1) b1.1
    rw [h.1]; exact hk _ _
theorem kyrS (G : Hp) (k : Str) : rS.r G (kV (Sum.inr k)) k := rfl
theorem kyrI (G : Hp) (k : Int) : rI.r G (kV (Sum.inl k)) k := rfl
/-- d != e of equal ones (values: ints) -/
def sameM (d e : List (κ × Int)) : Bool := decide (d.length = e.length) && d.all fun p => decide (lookM e p.1 = some p.2)
theorem rr_neM (hj : Inj kf) : RR rNeDA (rM kf rI) (rM kf rI) rB (fun d e => bif sameM d e then some false else none) := fun v w d e' z H G hv hw hz e Q q => by
  obtain ⟨a, ws, rfl, h2, h3⟩ := hv
  obtain ⟨b, us, rfl, k2, k3⟩ := hw
  replace hz : (bif sameM d e' then some false else none) = some z := hz
  cases hb : sameM d e' with
  | false => rw [hb] at hz; cases hz
  | true =>
    rw [hb] at hz
    cases hz
    obtain ⟨b1, b2⟩ := Bool.and_eq_true_iff.mp hb
    replace b1 := of_decide_eq_true b1
    refine ⟨a, b, ws, us, rfl, rfl, e a _ h2, e b _ k2, by rw [h3.length, k3.length]; exact b1, ?_, q _ H G (Up.refl e) rfl⟩
    have b3 : ∀ q ∈ d, lookM e' q.1 = some q.2 := fun q hq => of_decide_eq_true (List.all_eq_true.mp b2 q hq)
    clear hb b2 b1 h2
    induction h3 with
    | nil => intro p hp; cases hp
    | cons h t ih =>
      rename_i p' q' ws' d'
      intro p hp
      rcases List.mem_cons.mp hp with rfl | hp
      · have := b3 q' (List.mem_cons_self ..)
        rcases pm_look hj q'.1 k3 with ⟨e1, _⟩ | ⟨w, y, e1, e2, r4⟩
        · rw [e1] at this; cases this
        · rw [e1] at this
          cases this
          rw [h.1, e2]
          have r5 : p.2 = V.int q'.2 := h.2
          have r6 : w = V.int q'.2 := r4
          rw [r5, r6]
          exact ⟨rfl, rfl⟩
      · exact ih (fun q hq => b3 q (List.mem_cons_of_mem _ hq)) p hp
end
end Sim

/-! displays and making of objects, opened -/
namespace Sim
open PySem L2 Evl
section
variable {K : PySem.W.Frag} {C : Addr} {σ : L2.St} {G0 H0 G H G2 H2 W : Hp} {ls : List Addr} {cs : Cs} {l : Addr} {ta : TA} {sp : Sp} {dvs : List V} {X : XK} {Q : VK} {α β ι : Type} {R : Rep α} {S : Rep β} {A : AR ι}
def tK (vs : List V) : TA := fun _ H Q => Q vs H
theorem ea_k {vs : List V} {i : ι} (h : A.r G vs i) : EA (tK vs) σ G W A (some i) := fun x hx H e e' Q q => by
  cases hx
  exact q vs H G (Up.refl e) h
theorem o_make (h : ta σ H fun vs H1 => tMake C sp dvs X (tK vs) σ H1 Q) : tMake C sp dvs X ta σ H Q := h
theorem o_tup (h : ta σ H fun vs H1 => tTup (tK vs) σ H1 Q) : tTup ta σ H Q := h
theorem c_makeS {fl : α → Ps} {f : ι → Option α} {vs : List V} {i : ι} {z : α} (w : Wo G0 H0 ls G H cs) (hv : A.r G vs i) (hz : f i = some z)
    (k : ∀ v H2 G2, Wo G0 H0 ls G2 H2 cs → Ex G G2 → (rSl C fl).r G2 v z → Q v H2) : tMake C (PIs C A fl f) [] X (tK vs) σ H Q := c_e w (e_makeS (ea_k hv)) (show f i = some z from hz) k
theorem c_makeN {ns : List Str} {fl : α → List Pd} {f : ι → Option α} {vs : List V} {i : ι} {z : α} (w : Wo G0 H0 ls G H cs) (hv : A.r G vs i) (hz : f i = some z)
    (k : ∀ v H2 G2, Wo G0 H0 ls G2 H2 cs → Ex G G2 → (rObj C ns fl).r G2 v z → Q v H2) : tMake C (PI C A ns fl f) [] X (tK vs) σ H Q := c_e w (e_make (ea_k hv)) (show f i = some z from hz) k
theorem c_pairO {v u : V} {x : α} {y : β} (w : Wo G0 H0 ls G H cs) (hx : R.r G v x) (hy : S.r G u y) (k : ∀ v H2 G2, Wo G0 H0 ls G2 H2 cs → Ex G G2 → (rP R S).r G2 v (x, y) → Q v H2) : tTup (tK [v, u]) σ H Q := by
  refine ⟨by show 2 ≤ sizeLine; decide, fun p hp => k _ _ _ (w.up (Up.lay w.ex hp)) (Ex.new (fresh_back w.ex hp)) ⟨p, v, u, rfl, upd_same, R.mono ?_ hx, S.mono ?_ hy⟩⟩
  · exact Ex.new (fresh_back w.ex hp)
  · exact Ex.new (fresh_back w.ex hp)
end
end Sim

/-! slices of lists, f-strings, join -/
namespace Sim
open PySem L2 Evl
section
variable {K : PySem.W.Frag} {σ : L2.St} {G H W : Hp} {te to : TE} {tl th : TO} {α : Type} {R : Rep α}
def EO (t : TO) (σ : L2.St) (G W : Hp) (m : Option (Option Int)) : Prop := ∀ o, m = some o → ∀ H, Ex G H → Ex W H → ∀ Q : Option Int → Hp → Prop, (∀ H2, Ex H H2 → Q o H2) → t σ H Q
theorem eo_no : EO tNoPart σ G W (some none) := fun o ho H _ _ Q q => by
  cases ho
  exact q H (Ex.refl _)
theorem eo_at {m : Option Int} (h : E te σ G W rI m) : EO (tPart te) σ G W (m >>= fun i => some (some i)) := fun o ho H e e' Q q => by
  obtain ⟨i, hi, ho⟩ := bindS ho
  cases ho
  refine h i hi H e e' _ fun v H2 G2 u r => ?_
  exact ⟨i, r, q H2 u.hh⟩
def cutM (xs : List α) (lo hi : Option Int) : List α := (xs.drop (HT.sIx xs.length 0 lo)).take (HT.sIx xs.length xs.length hi - HT.sIx xs.length 0 lo)
theorem pr_cut {P : V → α → Prop} {vs : List V} {xs : List α} (lo hi : Option Int) (h : Paired P vs xs) : Paired P (cutV vs lo hi) (cutM xs lo hi) := by
  unfold cutV cutM
  rw [h.length]
  exact pr_take _ (pr_drop _ h)
theorem el_slice {m : Option (List α)} {ml mh : Option (Option Int)} (h : E te σ G W (rL R) m) (hl : EO tl σ G W ml) (hh : EO th σ G W mh) : EL (tSl (rSlL K) te tl th) σ G W R (m >>= fun xs => ml >>= fun lo => mh >>= fun hi => some (cutM xs lo hi)) := fun z hz H e e' Q q => by
  obtain ⟨xs, hx, hz⟩ := bindS hz
  obtain ⟨lo, hlo, hz⟩ := bindS hz
  obtain ⟨hi, hhi, hz⟩ := bindS hz
  cases hz
  refine h xs hx H e e' _ fun v H1 G1 u r => ?_
  refine hl lo hlo H1 (e.trans u.hh) (e'.trans u.hh) _ fun H2 x2 => ?_
  refine hh hi hhi H2 (e.trans (u.hh.trans x2)) (e'.trans (u.hh.trans x2)) _ fun H3 x3 => ?_
  obtain ⟨a, vs, rfl, h2, h3⟩ := r
  have x := x2.trans x3
  have u1 := u.trans (Up.same u.gh x)
  exact ⟨a, vs, rfl, .inl (.inl (x a _ (u.gh a _ h2))), fun p hp => q p _ G1 (fresh_back u1.hh hp) (u1.trans (up_new u1.gh hp)) (wd_new u1.gh hp (pr_cut lo hi h3))⟩
/-! f-strings -/
def fjS : List (Option Str) → Str → Option Str
  | [], acc => some acc
  | m :: ms, acc => m >>= fun y => addS acc y >>= fjS ms
def EJ (ts : List TE) (σ : L2.St) (G W : Hp) (ms : List (Option Str)) : Prop := ∀ acc z, fjS ms acc = some z → ∀ H, Ex G H → Ex W H → ∀ Q : Str → Hp → Prop, (∀ H2, Ex H H2 → Q z H2) → tJs ts acc σ H Q
theorem ej_nil : EJ [] σ G W [] := fun acc z hz H e e' Q q => by
  cases hz
  exact q H (Ex.refl _)
theorem ej_cons {m : Option Str} {ms : List (Option Str)} {ts : List TE} (h : E te σ G W rS m) (hr : EJ ts σ G W ms) : EJ (te :: ts) σ G W (m :: ms) := fun acc z hz H e e' Q q => by
  obtain ⟨y, hy, hz⟩ := bindS hz
  obtain ⟨w, hw, hz⟩ := bindS hz
  obtain ⟨hl, hw⟩ := bifO1 hw
  cases hw
  refine h y hy H e e' _ fun v H1 G1 u r => ?_
  refine ⟨y, r, by rw [PySem.Str.length_append, sizeLine_eq]; omega, hr _ z hz H1 (e.trans u.hh) (e'.trans u.hh) Q fun H2 x => q H2 (u.hh.trans x)⟩
abbrev tFj (ts : List TE) : TE := fun σ H Q => tJs ts Str.empty σ H fun out H1 => Q (.str out) H1
theorem e_fj {ms : List (Option Str)} {ts : List TE} (h : EJ ts σ G W ms) : E (tFj ts) σ G W rS (fjS ms Str.empty) := fun z hz H e e' Q q =>
  h _ z hz H e e' _ fun H2 x => q _ H2 G (Up.same e x) rfl
def szS (y : Str) : Option Str := bif decide (y.length < 100000) then some y else none
theorem e_fmtS {m : Option Str} (h : E te σ G W rS m) : E (tFmt te) σ G W rS (m >>= fun y => szS y) := fun z hz H e e' Q q => by
  obtain ⟨y, hy, hz⟩ := bindS hz
  obtain ⟨hl, hz⟩ := bifO1 hz
  have hz := Option.some.inj hz
  subst hz
  refine h y hy H e e' _ fun v H1 G1 u r => ?_
  exact .inl ⟨y, r, by rw [sizeLine_eq]; omega, q _ H1 G1 u rfl⟩
theorem e_fmtI {m : Option Int} (h : E te σ G W rI m) : E (tFmt te) σ G W rS (m >>= fun y => strI y) := fun z hz H e e' Q q => by
  obtain ⟨y, hy, hz⟩ := bindS hz
  obtain ⟨hl, hz⟩ := bifO1 hz
  have hz := Option.some.inj hz
  subst hz
  refine h y hy H e e' _ fun v H1 G1 u r => ?_
  refine .inr ⟨y, r, ?_, q _ H1 G1 u rfl⟩
  by_cases h0 : y.natAbs = 0
  · rw [h0]; decide
  · have : y.natAbs.log2 < 64 := (Nat.log2_lt h0).mpr hl
    omega
/-! join -/
abbrev rJoinS (K : PySem.W.Frag) : V → List V → Hp → VK → Prop := fun x xs H Q => ∃ a p, ∃ ys : List Str, x = .str a ∧ xs = [.ref p] ∧ (SqL K H p (ys.map V.str) ∨ SqT K H p (ys.map V.str)) ∧
  (ys.map (·.length)).sum + ys.length * a.length ≤ 16777216 ∧ Q (.str (Txt.join a ys)) H
def joinS (a : Str) (ys : List Str) : Option Str := bif decide ((ys.map (·.length)).sum + ys.length * a.length < 100000) then some (Txt.join a ys) else none
theorem pr_strs {G : Hp} : ∀ {vs : List V} {ys : List Str}, Paired (rS.r G) vs ys → vs = ys.map V.str
  | _, _, .nil => rfl
  | _, _, .cons h t => by rw [pr_strs t, show _ = V.str _ from h]; rfl
theorem e_sjoin {m1 : Option Str} {m2 : Option (List Str)} (ho : E to σ G W rS m1) (he : E te σ G W (rL rS) m2) : E (tM1 (rJoinS K) to te) σ G W rS (m1 >>= fun a => m2 >>= fun ys => joinS a ys) := fun z hz H e e' Q q => by
  obtain ⟨a, ha, hz⟩ := bindS hz
  obtain ⟨ys, hy, hz⟩ := bindS hz
  obtain ⟨hl, hz⟩ := bifO1 hz
  cases hz
  refine ho a ha H e e' _ fun v H1 G1 u r => ?_
  cases r
  refine ⟨⟨a, rfl⟩, (he.mono u.gg (e'.trans u.hh)) ys hy H1 u.gh (Ex.refl _) _ fun w H2 G2 u2 r2 => ?_⟩
  obtain ⟨p, vs, rfl, h2, h3⟩ := r2
  rw [pr_strs h3] at h2
  exact ⟨a, p, ys, rfl, rfl, .inl (.inl (.inl (u2.gh p _ h2))), by omega, q _ H2 G2 (u.trans u2) rfl⟩
/-! p[0], p[1] with effects; a cell's element -/
variable {G0 H0 : Hp} {ls : List Addr} {cs : Cs} {l : Addr} {β : Type} {S : Rep β}
theorem rr_fst : RR (rIxT K) (rP R S) rI R (fun p i => bif i == 0 then some p.1 else none) := fun v w p i z H G hv hw hz e Q q => by
  obtain ⟨a, x, y, rfl, h2, h3, h4⟩ := hv
  cases hw
  cases hb : (i == (0 : Int)) with
  | false => simp only [hb] at hz; cases hz
  | true =>
    simp only [hb] at hz
    cases hz
    rw [beq_iff_eq] at hb
    subst hb
    exact ⟨a, [x, y], 0, x, rfl, rfl, Or.inl (Or.inl (e a _ h2)), rfl, q x H G (Up.refl e) h3⟩
theorem rr_snd : RR (rIxT K) (rP R S) rI S (fun p i => bif i == 1 then some p.2 else none) := fun v w p i z H G hv hw hz e Q q => by
  obtain ⟨a, x, y, rfl, h2, h3, h4⟩ := hv
  cases hw
  cases hb : (i == (1 : Int)) with
  | false => simp only [hb] at hz; cases hz
  | true =>
    simp only [hb] at hz
    cases hz
    rw [beq_iff_eq] at hb
    subst hb
    exact ⟨a, [x, y], 1, y, rfl, rfl, Or.inl (Or.inl (e a _ h2)), rfl, q y H G (Up.refl e) h4⟩
theorem c_ixC {j : Nat} {i : Int} {x : α} {xs : List α} {Q : VK} (w : Wo G0 H0 ls G H cs) (hc : cs[j]? = some (l, cL R xs)) (hm : atI xs i = some x) (k : ∀ v, R.r G v x → Q v H) : rIxL K (.ref l) (.int i) H Q := by
  obtain ⟨_, o3, h1, vs, rfl, h3⟩ := w.w.getAt hc
  have hz' : (ixN xs.length i).bind (fun j => xs[j]?) = some x := hm
  cases hj : ixN xs.length i with
  | none => rw [hj] at hz'; cases hz'
  | some n =>
    rw [hj] at hz'
    obtain ⟨y, h4, h5⟩ := pr_get h3 (show xs[n]? = some x from hz')
    refine ⟨l, vs, i, y, rfl, rfl, Or.inl (Or.inl h1), ?_, k y h5⟩
    show (ixN vs.length i).bind (fun j => vs[j]?) = some y
    rw [h3.length, hj]
    exact h4
/-! C(.., cell, ..) of a class with slots, the cell only read -/
variable {κ ι : Type} {B : Rep κ} {C : Addr} {A : AR ι} {fl : α → Ps} {ad : ι → Addr} {ys : List κ} {ta : TA}
def PIBs (C : Addr) (A : AR ι) (ad : ι → Addr) (B : Rep κ) (fl : α → Ps) (f : List κ → ι → Option α) : Sp := fun vs H Q _ => ∃ G x dx ws i ys o, vs = .ref x :: ws ∧ Wd G H [(x, cN C dx), (dx, cOw x)] ∧ A.r G ws i ∧ Lent G H (ad i) B ys ∧ f ys i = some o ∧
  ∀ H2 G2, Fr G H G2 H2 [x, dx] → Wd G2 H2 [(x, cSl x C dx (fl o)), (dx, cXd)] → Q .non H2
theorem e_makeBS {f : List κ → ι → Option α} {mi : Option ι} {X : XK} (ha : EA ta σ G W A mi) (L : Lent G W l B ys) (hl : ∀ i, mi = some i → ad i = l) : E (tMake C (PIBs C A ad B fl f) [] X ta) σ G W (rSl C fl) (mi >>= fun i => f ys i) := fun z hz H e e' Q q => by
  obtain ⟨i, hi, hz⟩ := bindS hz
  refine ha i hi H e e' _ fun vs H1 G1 u1 r1 => ?_
  have := hl i hi
  subst this
  intro x dx nx ndx ne
  rw [List.append_nil]
  have L1 := L.up e' u1
  have L2 : Lent G1 (upd (upd H1 dx (.own x)) x (.ins C dx [])) (ad i) B ys := by
    obtain ⟨vs', h2, h3⟩ := L1.at_
    exact ⟨L1.n, vs', by rw [upd_ne (ne_of_none h2 nx), upd_ne (ne_of_none h2 ndx)]; exact h2, h3⟩
  refine ⟨G1, x, dx, vs, i, ys, z, rfl, new_slt u1.gh nx ndx ne, r1, L2, hz, fun H2 G2 fr w2 => ⟨rfl, ?_⟩⟩
  obtain ⟨G3, k1, k2, k3, vs', k4, k5, k6⟩ := sl_freeze w2
  have hh : Ex H1 H2 := fun a o h => by
    have na : a ≠ x := ne_of_none h nx
    have nd : a ≠ dx := ne_of_none h ndx
    exact fr.fr a o (by rw [upd_ne na, upd_ne nd]; exact h) fun z => by simp [na, nd] at z
  have up : Up G1 H1 G3 H2 := ⟨fr.gg.trans k1, k2, hh, fun a h1 h2 => by
    have na : a ≠ x := fun z => by subst z; exact h1 nx
    have nd : a ≠ dx := fun z => by subst z; exact h1 ndx
    exact k3 a na nd (fr.nw a (by rw [upd_ne na, upd_ne nd]; exact h1) h2)⟩
  exact q _ H2 G3 (u1.trans up) ⟨x, dx, vs', rfl, k4, k5, k6⟩
theorem Lent.neS {x dx : Addr} (L : Lent G H l B ys) (w : Wd G H [(x, cN C dx), (dx, cOw x)]) : l ∉ [x, dx] := fun z => by
  obtain ⟨vs, h2, _⟩ := L.at_
  rcases List.mem_cons.mp z with rfl | z
  · obtain ⟨_, o, k2, k3⟩ := w.head
    rw [k2] at h2
    cases h2
    cases k3
  · rw [List.mem_singleton] at z
    subst z
    obtain ⟨_, o, k2, k3⟩ := w.tail.head
    rw [k2] at h2
    cases h2
    cases k3
/-! comprehensions over a lent list -/
def GoesL (J : It) (H1 G1 : Hp) (R : Rep α) (xs : List α) : Prop :=
  ∀ i H, Ex H1 H → (i = xs.length → J.stop i H) ∧ ∀ x, xs[i]? = some x → J.go i H ∧ ∀ v H', J.yld i H v H' → H' = H ∧ R.r G1 v x
def SrcL (wi : TI) (σ : L2.St) (G W : Hp) (R : Rep α) (m : Option (List α)) : Prop :=
  ∀ xs, m = some xs → ∀ H, Ex G H → Ex W H → ∀ k : It → Hp → Prop, (∀ J H1 G1, Up G H G1 H1 → GoesL J H1 G1 R xs → k J H1) → wi σ H k
theorem src_lent {xs : List α} {n : Nat} (L : Lent G W l R xs) (hi : σ[n]? = some (some (.ref l))) : SrcL (iList K (tVar n)) σ G W R (some xs) := fun xs' hx H e e' k q => by
  cases hx
  obtain ⟨us, h2, h3⟩ := L.at_
  refine ⟨.ref l, hi, l, rfl, ⟨us, Or.inl (Or.inl (e' _ _ h2))⟩, q _ H G (Up.refl e) fun i H' e1 => ⟨fun hi => ?_, fun x hx => ?_⟩⟩
  · subst hi; exact ⟨us, Or.inl (Or.inl (e1 _ _ (e' _ _ h2))), by rw [h3.length]; exact Nat.le_refl _⟩
  · obtain ⟨v, hv, r⟩ := pr_get h3 hx
    refine ⟨⟨us, v, Or.inl (Or.inl (e1 _ _ (e' _ _ h2))), hv⟩, fun w H2 y => ?_⟩
    obtain ⟨rfl, y⟩ := y
    have := y us (Or.inl (Or.inl (e1 _ _ (e' _ _ h2))))
    rw [hv] at this
    cases this
    exact ⟨rfl, r⟩
section
variable {γ : Type} {T : Rep γ} {wi : TI} {g : TG} {tt : TT}
/-- [e2 for x in xs if f1] -/
theorem el_lc1L {vs : List Nat} {m : Option (List α)} {f1 : α → Option Bool} {e2 : α → Option γ} {P : Hp → α → L2.St → L2.St → Prop}
    (h : SrcL wi σ G W R m) (hg : Tgt g R P) (hw : ∀ x G' σ2, P G' x (wipe σ vs) σ2 → wipe σ2 vs = wipe σ vs)
    (ht : ∀ x σ2 G' W', Ex G G' → Ex W W' → Ex G' W' → P G' x (wipe σ vs) σ2 → ET tt σ2 W' (f1 x))
    (he : ∀ x σ2 G' W', Ex G G' → Ex W W' → Ex G' W' → P G' x (wipe σ vs) σ2 → E te σ2 G' W' T (e2 x)) :
    EL (tLc wi g tt te vs) σ G W T (m >>= fun xs => lcS f1 e2 xs) := fun zs hz H e e' Q q => by
  obtain ⟨xs, hx, hz⟩ := bindS hz
  obtain ⟨hs, hz⟩ := lcS_ok hz
  refine h xs hx H e e' _ fun J H1 G1 u gs D hD => ?_
  have e1 : Ex W H1 := e'.trans u.hh
  refine ⟨fun i n H' => n = xs.length - i ∧ i ≤ xs.length ∧ ∃ G' acc ys rest, Acc G1 H1 T D G' H' acc ys ∧ lcM f1 e2 (xs.drop i) = some rest ∧ ys ++ rest = zs ∧ ys.length ≤ i, ⟨_, rfl, Nat.zero_le _, G1, [], [], zs, Acc.start u.gh hD, hz, rfl, Nat.le_refl _⟩, ?_⟩
  rintro i n H' ⟨rfl, hi', G', acc, ys, rest, A, hr, hzs, hyl⟩
  have gx := gs i H' A.u.hh
  by_cases hlt : i < xs.length
  · obtain ⟨x, hx⟩ : ∃ x, xs[i]? = some x := ⟨_, List.getElem?_eq_getElem hlt⟩
    obtain ⟨go, yl⟩ := gx.2 x hx
    rw [drop_at hx] at hr
    obtain ⟨b, hb, hr⟩ := bindS hr
    refine .inr ⟨go, fun H' => ∃ G' acc ys rest, Acc G1 H1 T D G' H' acc ys ∧ lcM f1 e2 (xs.drop (i + 1)) = some rest ∧ ys ++ rest = zs ∧ ys.length ≤ i + 1, fun H2 ⟨G2, a2, y2, r2, A2, k1, k2, k3⟩ => ⟨xs.length - (i + 1), by omega, rfl, hlt, G2, a2, y2, r2, A2, k1, k2, k3⟩, fun v H2 y => ?_⟩
    obtain ⟨rfl, r⟩ := yl v H2 y
    refine hg v x _ G' H2 _ A.u.gh (R.mono A.u.gg r) fun σ2 p => ⟨hw x G' σ2 p, ?_⟩
    refine ht x σ2 G' H2 (u.gg.trans A.u.gg) (e1.trans A.u.hh) A.u.gh p b hb H2 (Ex.refl _) _ fun H3 e3 => ?_
    have A := A.sc e3
    cases b with
    | false => exact ⟨G', acc, ys, rest, A, hr, hzs, by omega⟩
    | true =>
      obtain ⟨z, hz', hr⟩ := bindS hr
      obtain ⟨t, ht', hr⟩ := bindS hr
      cases hr
      show te σ2 H3 _
      refine he x σ2 G' H3 (u.gg.trans A.u.gg) (e1.trans A.u.hh) A.u.gh p z hz' H3 A.u.gh (Ex.refl _) _ fun w H8 G8 u8 r8 => ?_
      have A8 := A.up u8
      refine ⟨acc, A8.hd, ?_, G8, _, _, t, A8.add r8, ht', by rw [← hzs]; simp, by simp; omega⟩
      rw [A8.pr.length]
      refine sz_l (n := ys.length) (decide_eq_true ?_)
      have h9 := of_decide_eq_true hs
      omega
  · have ei : i = xs.length := by omega
    subst ei
    rw [List.drop_length] at hr
    cases hr
    rw [List.append_nil] at hzs
    subst hzs
    obtain ⟨G9, k1, k2, k3⟩ := A.fin
    exact .inl ⟨gx.1 rfl, q D H' G9 (fresh_back u.hh k1) (u.trans k2) k3⟩
end
/-! what is never reached -/
def tsNo : TS := fun _ _ _ => False
theorem pss_no {X : Cx} {ss : List Stmt} : PSs X ss tsNo := ⟨fun _ _ _ _ _ _ h => h.elim⟩
end
end Sim

set_option maxHeartbeats 4000000
namespace My
open PySem PySem.Spec PyProof.Rows L2 Sim
theorem be1 {α β : Type} {x : Option α} {f : α → Option β} : (x >>= f) = Option.bind x f := Eq.trans (show (x >>= f) = Option.bind x f from rfl) (Eq.refl _)
theorem bs1 {α β : Type} {a : α} {f : α → Option β} : Option.bind (some a) f = f a := Eq.trans (Option.bind_some a f) (Eq.refl _)
theorem bifT {α : Type} {a b c : α} (h : (bif true then a else b) = c) : a = c := h
theorem bifF {α : Type} {a b c : α} (h : (bif false then a else b) = c) : b = c := h
theorem elimL {α β γ : Type} {f : α → γ} {g : β → γ} {a : α} {c : γ} (h : Sum.elim f g (Sum.inl a) = c) : f a = c := h
theorem ba1 {α β γ : Type} {x : Option α} {f : α → Option β} {g : β → Option γ} : Option.bind (Option.bind x f) g = Option.bind x fun y => Option.bind (f y) g := Option.bind_assoc ..
def top (i : Nat) : Stmt := PySem.Challenge.pw_askedpoints_k11_records.main.body.getD i (.Pass ⟨0, 0, 0, 0⟩)
abbrev s__wall : Stmt := top 0
abbrev s_Record___init__ : Stmt := inClass (top 7) 1
abbrev s_Record_asked : Stmt := inClass (top 7) 2
abbrev s_Record_answer : Stmt := inClass (top 7) 3
abbrev s_Record_under : Stmt := inClass (top 7) 4
abbrev s_Record_over : Stmt := inClass (top 7) 5
abbrev s_Record_matches : Stmt := inClass (top 7) 6
abbrev s_Record_written : Stmt := inClass (top 7) 7
abbrev s_Record___eq__ : Stmt := inClass (top 7) 8
abbrev s__law_pot : Stmt := top 9
abbrev s__law_draw : Stmt := top 10
abbrev s__law_int : Stmt := top 11
abbrev s__law_names : Stmt := top 12
abbrev s__law_any_value : Stmt := top 13
abbrev s__law_answer : Stmt := top 14
abbrev s__law_record_kept : Stmt := top 15
abbrev s__law_unlike : Stmt := top 16
abbrev s__law_repeated : Stmt := top 17
abbrev s__law_twice_refused : Stmt := top 18
abbrev s_law : Stmt := top 19
def d_Record___init__ : He.DefD := ⟨("Record", some "__init__"), "__init__", "Record.__init__", defArgs s_Record___init__, defBody s_Record___init__, defScope s_Record___init__, [], []⟩
def d_Record_asked : He.DefD := ⟨("Record", some "asked"), "asked", "Record.asked", defArgs s_Record_asked, defBody s_Record_asked, defScope s_Record_asked, [], []⟩
def d_Record_answer : He.DefD := ⟨("Record", some "answer"), "answer", "Record.answer", defArgs s_Record_answer, defBody s_Record_answer, defScope s_Record_answer, [], []⟩
def d_Record_written : He.DefD := ⟨("Record", some "written"), "written", "Record.written", defArgs s_Record_written, defBody s_Record_written, defScope s_Record_written, [], []⟩
def d_Record___eq__ : He.DefD := ⟨("Record", some "__eq__"), "__eq__", "Record.__eq__", defArgs s_Record___eq__, defBody s_Record___eq__, defScope s_Record___eq__, [], []⟩
def d__law_pot : He.DefD := ⟨("_law_pot", none), "_law_pot", "_law_pot", defArgs s__law_pot, defBody s__law_pot, defScope s__law_pot, [], []⟩
def d__law_draw : He.DefD := ⟨("_law_draw", none), "_law_draw", "_law_draw", defArgs s__law_draw, defBody s__law_draw, defScope s__law_draw, [], []⟩
def d__law_int : He.DefD := ⟨("_law_int", none), "_law_int", "_law_int", defArgs s__law_int, defBody s__law_int, defScope s__law_int, [], []⟩
def d__law_names : He.DefD := ⟨("_law_names", none), "_law_names", "_law_names", defArgs s__law_names, defBody s__law_names, defScope s__law_names, [], []⟩
def d__law_any_value : He.DefD := ⟨("_law_any_value", none), "_law_any_value", "_law_any_value", defArgs s__law_any_value, defBody s__law_any_value, defScope s__law_any_value, [], []⟩
def d__law_answer : He.DefD := ⟨("_law_answer", none), "_law_answer", "_law_answer", defArgs s__law_answer, defBody s__law_answer, defScope s__law_answer, [], []⟩
def d__law_record_kept : He.DefD := ⟨("_law_record_kept", none), "_law_record_kept", "_law_record_kept", defArgs s__law_record_kept, defBody s__law_record_kept, defScope s__law_record_kept, [], []⟩
def d__law_unlike : He.DefD := ⟨("_law_unlike", none), "_law_unlike", "_law_unlike", defArgs s__law_unlike, defBody s__law_unlike, defScope s__law_unlike, [], []⟩
def d__law_repeated : He.DefD := ⟨("_law_repeated", none), "_law_repeated", "_law_repeated", defArgs s__law_repeated, defBody s__law_repeated, defScope s__law_repeated, [], []⟩
def d__law_twice_refused : He.DefD := ⟨("_law_twice_refused", none), "_law_twice_refused", "_law_twice_refused", defArgs s__law_twice_refused, defBody s__law_twice_refused, defScope s__law_twice_refused, [], []⟩
def d_law : He.DefD := ⟨("law", none), "law", "law", defArgs s_law, defBody s_law, defScope s_law, [], []⟩
def fn : List He.DefD := [d_Record___init__, d_Record_asked, d_Record_answer, d_Record_written, d_Record___eq__, d__law_pot, d__law_draw, d__law_int, d__law_names, d__law_any_value, d__law_answer, d__law_record_kept, d__law_unlike, d__law_repeated, d__law_twice_refused, d_law]
def fa : List He.Fa := [.glo "_wall", .glo "AskedError", .glo "AskedTwice", .glo "Unanswered", .glo "NoSide", .glo "Record", .glo "_law_pot", .glo "_law_draw", .glo "_law_int", .glo "_law_names", .glo "_law_any_value", .glo "_law_answer", .glo "_law_record_kept", .glo "_law_unlike", .glo "_law_repeated", .glo "_law_twice_refused", .glo "law", .free "super", .free "len", .free "min", .free "range", .free "abs", .free "int", .free "tuple", .free "isinstance", .free "bool", .free "list", .free "str", .meth "Record" "asked", .meth "Record" "answer", .meth "Record" "written", .mkr "Record", .meth "Record" "__eq__"]
def ex : List (PySem.W.Frag → Bool) := [sclB "Record", slotB "Record" "name" 1, slotB "Record" "asks" 0, slotB "Record" "result" 2, kiOB "Record" "Record" true, sisiB "Record", kitNB "str" "Record" false, kitNB "tuple" "Record" false, kitNB "int" "Record" false, xsB ["AskedTwice"], xnB ["AskedTwice"] ["name"], xkB ["AskedTwice"] "AskedError" ["AskedTwice"], xkB ["AskedTwice"] "NoSide" [], xkB ["AskedTwice"] "Unanswered" [], xaB ["AskedTwice"] "AskedTwice" true, subNB "str" "Record", subNB "tuple" "Record", subNB "int" "Record", noB "AskedTwice" "name"]
def P : Program := (PySem.Challenge.rw_askedpoints_k11_records).prog
abbrev s_AskedTwice___init__ : Stmt := inClass (top 3) 0
def x_AskedTwice : XcD := ⟨"AskedTwice", "AskedTwice.__init__", defArgs s_AskedTwice___init__, defBody s_AskedTwice___init__, defScope s_AskedTwice___init__⟩
def xs : List XcD := [x_AskedTwice]
def gs : List GeD := []
abbrev Tx (K : PySem.W.Frag) (mg : Str → Option Value) : Prop := TxX fa fn ex xs gs P.main.file K mg
structure m_Record where
  name : Str
  asks : (List (Str × Int))
  result : Int
deriving DecidableEq
def fl_Record (K : PySem.W.Frag) (o : m_Record) : Ps := [(1, pd rS o.name), (0, pd (rT (rP rS rI)) o.asks), (2, pd rI o.result)]
abbrev r_Record (K : PySem.W.Frag) : Rep m_Record := rSl (He.ga K "Record") (fl_Record K)
section
variable {w : World} {K : PySem.W.Frag} {mg : Str → Option Value} {base : Heap}
theorem fr_super (T : Tx K mg) : mg "super" = none := T.free 17 rfl
theorem fr_len (T : Tx K mg) : mg "len" = none := T.free 18 rfl
theorem fr_min (T : Tx K mg) : mg "min" = none := T.free 19 rfl
theorem fr_range (T : Tx K mg) : mg "range" = none := T.free 20 rfl
theorem fr_abs (T : Tx K mg) : mg "abs" = none := T.free 21 rfl
theorem fr_int (T : Tx K mg) : mg "int" = none := T.free 22 rfl
theorem fr_tuple (T : Tx K mg) : mg "tuple" = none := T.free 23 rfl
theorem fr_isinstance (T : Tx K mg) : mg "isinstance" = none := T.free 24 rfl
theorem fr_bool (T : Tx K mg) : mg "bool" = none := T.free 25 rfl
theorem fr_list (T : Tx K mg) : mg "list" = none := T.free 26 rfl
theorem fr_str (T : Tx K mg) : mg "str" = none := T.free 27 rfl
theorem ns_AskedTwice : NdefX.NScope ["self", "name", "__class__"] ["self", "name"] ["__class__"] (defScope s_AskedTwice___init__) := NdefX.nscope_by (by decide +kernel)
theorem known_AskedTwice (T : Tx K mg) : XcK P K mg x_AskedTwice := XcD.known (T.xc 0 rfl).1 (T.xc 0 rfl).2 (fr_super T) (by decide +kernel) (by decide +kernel) (by decide +kernel) rfl (by decide +kernel)
theorem okx_AskedTwice (T : Tx K mg) : ∃ fd, Binds K fd ["self", "name"] [] ∧ FnOk P w K mg base CX0 1 (xcAd K "AskedTwice") fd ["self", "name"] (spX (He.ga K "AskedTwice") ["name"]) := by
  obtain ⟨fd, cc, c, Z⟩ := (known_AskedTwice T).ex
  refine ⟨fd, ?_, ?_⟩
  · obtain ⟨oc, od, osl, kV, doc, pm, an, ct, rfl, lk⟩ := Z.lk
    exact .all fun us hl => match us, hl with | [_, _], _ => rfl
  · refine xinit (F := ⟨"__init__", x_AskedTwice.qual, x_AskedTwice.params, x_AskedTwice.body, x_AskedTwice.scope, [("__class__", cc)], c⟩) (fi := [("name", 1)]) ns_AskedTwice Z rfl (fun _ => rfl) (fun _ => rfl) (fun f hf => ?_) rfl (fun a ws h => ?_) (fun A outer s H E => ?_)
    · simp only [List.mem_cons, List.not_mem_nil, or_false] at hf
      rcases hf with rfl
      · exact noB_ok (T.mo 18 rfl)
    · match ws, h with
      | [y1], _ => exact ⟨("name", 1, y1), [], by simp, rfl, rfl, by simp [NdefX.startF]⟩
    · exact pss_cons (ps_ost (pe_var (i := 0) rfl (Or.inl rfl)) (pe_var (i := 1) rfl (Or.inl rfl))) (pss_nil)
def m__law_pot_b2 (x120 : Int) (s110 : ((List Int) × Int)) : Option ((List Int) × Int) :=
  ((some ((decide ((0 : Int) < s110.2)) || (x120 == (0 : Int))) >>= fun b123 => bif b123 then (modM s110.2 (100 : Int) >>= fun a142 => appM s110.1 a142 >>= fun pot_here_143 => some pot_here_143) else some s110.1) >>= fun s134 => (fdivM s110.2 (100 : Int) >>= fun rest_157 => some ((s134, rest_157))))
def m__law_pot_b1 (script0 : (List Int)) (x30 : Int) (s17 : (List Int)) : Option (List Int) :=
  ((atI script0 x30 >>= fun t33 => some (if t33 < 0 then -t33 else t33)) >>= fun rest_34 => (some (60 : Int) >>= fun many_38 => (((powM (10 : Int) (18 : Int) >>= fun t42 => some (decide (rest_34 < t42))) >>= fun b43 => bif b43 then ((((mulM (2 : Int) rest_34 >>= fun t77 => (((atI script0 x30 >>= fun t75 => some (decide (t75 < (0 : Int)))) >>= fun t76 => some (if t76 = true then (1 : Int) else 0)) >>= fun t78 => some (t77 + t78))) >>= fun t80 => ((mulM (2 : Int) x30 >>= fun t79 => some ((48271 : Int) + t79)) >>= fun t81 => mulM t80 t81)) >>= fun t82 => modM t82 (2147483647 : Int)) >>= fun rest_83 => (((mulM rest_83 rest_83 >>= fun t87 => (mulM rest_83 x30 >>= fun t88 => some (t87 + t88))) >>= fun t89 => modM t89 (2147483629 : Int)) >>= fun rest_90 => (some (4 : Int) >>= fun many_94 => some (many_94, rest_90)))) else some (many_38, rest_34)) >>= fun s67 => (some s67.1 >>= fun n103 => rngM 0 n103 >>= fun xs105 => forS (m__law_pot_b2) xs105 (s17, s67.2) >>= fun s110 => some (s110.1)))))
def m__law_pot (script0 : (List Int)) : Option (List Int) :=
  (some ([]) >>= fun pot_here_1 => (some (if (63 : Int) < (script0.length : Int) then (63 : Int) else (script0.length : Int)) >>= fun n10 => rngM 0 n10 >>= fun xs12 => forS (m__law_pot_b1 script0) xs12 pot_here_1 >>= fun s17 => (some (s17.reverse) >>= fun pot_here_173 => some s17.reverse)))
theorem sc__law_pot : FnScope ["_law_script", "_law_pot_here", "_law_place", "_law_rest", "_law_many", "_law_k"] ["_law_script"] (defScope s__law_pot) := ⟨rfl, rfl, rfl, by decide +kernel, rfl, by decide +kernel, by decide +kernel⟩
theorem ok__law_pot (T : Tx K mg) : Fk P w K mg base CX0 1 "_law_pot" ["_law_script"] (PL (aC (rScr K) aN) rI (fun i => m__law_pot i.1)) := by
  obtain ⟨fd, F⟩ := T.def_ 5 rfl
  have nd := sc__law_pot.nd
  refine fk_mk T.toTx (x := "_law_pot") (T.glo 6 rfl) F (fun _ _ _ _ _ _ us hl => match us, hl with | [_], _ => rfl) (F.ok sc__law_pot (fun vs H Q E h => ?_) (fun cdv A outer s H vs Q E hr h => ?_))
  · obtain ⟨G, ⟨script0, ⟨⟩⟩, r, e0, ⟨vscript0, _, rfl, hscript0, rfl⟩, h, k⟩ := h
    rfl
  · obtain ⟨G, ⟨script0, ⟨⟩⟩, r, e0, ⟨vscript0, _, rfl, hscript0, rfl⟩, h, k⟩ := h
    have w0 := Wo.start e0
    have h : m__law_pot script0 = some r := h
    unfold m__law_pot at h
    refine ⟨_, PSs.nox (pss_cons (ps_set (i := 1) nd rfl (Or.inl rfl) (pe_lst pa_nil)) (pss_cons (ps_for PassesOwn.never rfl (pi_range1 (by rfl) (fr_range T) (pa_cons (pe_callB (call_min2 rfl) (by rfl) (fr_min T) (by decide +kernel) (pa_cons (pe_callB (r := rLn K) call_len_seq (by rfl) (fr_len T) (by decide +kernel) (pa_cons (pv 0) pa_nil)) (pa_cons pe_int pa_nil))) pa_nil)) (pg_name (i := 2) nd rfl (Or.inl rfl)) (pss_cons (ps_set (i := 3) nd rfl (Or.inl rfl) (pe_callB call_abs (by rfl) (fr_abs T) (by decide +kernel) (pa_cons (pe_ix (r := rIxL K) ix_list (pv 0) (pv 2) (fun _ _ => rfl)) pa_nil))) (pss_cons (ps_set (i := 4) nd rfl (Or.inl rfl) pe_int) (Evl.pss_cut (ps_if (pt_cmpR op_lt (pv 3) (pe_op op_pow pe_int pe_int) (nomark _)) (pss_cons (ps_set (i := 3) nd rfl (Or.inl rfl) (pe_op op_mod (pe_callTy call_int1 (by rfl) (fr_int T) (by decide +kernel) (pa_cons (pe_op op_mul (pe_op op_add (pe_op op_mul pe_int (pv 3)) (pe_callTy call_int1 (by rfl) (fr_int T) (by decide +kernel) (pa_cons (pe_cmpR op_lt (pe_ix (r := rIxL K) ix_list (pv 0) (pv 2) (fun _ _ => rfl)) pe_int (nomark _)) pa_nil))) (pe_op op_add pe_int (pe_op op_mul pe_int (pv 2)))) pa_nil)) pe_int)) (pss_cons (ps_set (i := 3) nd rfl (Or.inl rfl) (pe_op op_mod (pe_callTy call_int1 (by rfl) (fr_int T) (by decide +kernel) (pa_cons (pe_op op_add (pe_op op_mul (pv 3) (pv 3)) (pe_op op_mul (pv 3) (pv 2))) pa_nil)) pe_int)) (pss_cons (ps_set (i := 4) nd rfl (Or.inl rfl) pe_int) pss_nil))) pss_nil) (pss_cons (ps_for PassesOwn.never rfl (pi_range1 (by rfl) (fr_range T) (pa_cons (pv 4) pa_nil)) (pg_name (i := 5) nd rfl (Or.inl rfl)) (Evl.pss_cut (ps_if (PW.pt (pw_or (pt_cmpR op_gt (pv 3) pe_int (nomark _)) (pw_or1 (pt_cmpR op_eq (pv 5) pe_int (nomark _))))) (pss_cons (ps_expr (pe_bm PySem.F.plainAttrs_list PySem.F.slot_list_append PySem.F.type_list_append mt_append (pv 1) (pa_cons (pe_op op_mod (pe_callTy call_int1 (by rfl) (fr_int T) (by decide +kernel) (pa_cons (pv 3) pa_nil)) pe_int) pa_nil))) pss_nil) pss_nil) (pss_cons (ps_set (i := 3) nd rfl (Or.inl rfl) (pe_op op_fdiv (pv 3) pe_int)) pss_nil))) pss_nil))))) (pss_cons (ps_expr (pe_bm0 PySem.F.plainAttrs_list PySem.F.slot_list_reverse PySem.F.type_list_reverse mt_reverse (pv 1))) (pss_cons (ps_ret (pv 1)) pss_nil)))), ?_⟩
    obtain ⟨pot_here_1, hx2, h⟩ := bindS h
    refine x_setL w0 (el_disp (R := rI) eal_nil) hx2 ?_
    intro p5 H3 G6 n7 w4 e8
    have h9 := Rep.mono _ e8 hscript0
    obtain ⟨n10, hx11, h⟩ := bindS h
    obtain ⟨xs12, hx13, h⟩ := bindS h
    obtain ⟨t15, hx16, h⟩ := bindS h
    refine x_forR w4 (ea_cons (Sim.E.is (e_cb rc_min2 (ea_cons (e_cb rc_lenScr (ea_cons (e_var (R := (rScr K)) (x := script0) rfl h9) ea_nil)) (ea_cons e_int ea_nil))) hx11) ea_nil) rfl hx13 (fun i G' H' σ' => ∃ s17 : (List Int), ∃ u18 : Option V, ∃ u19 : Option V, ∃ u20 : Option V, ∃ u21 : Option V, Wo G H [] G' H' [(p5, cL rI s17)] ∧ Evl.Ex G6 G' ∧ σ' = [some vscript0, some (V.ref p5), u20, u21, u19, u18] ∧ forS (m__law_pot_b1 script0) (xs12.drop i) s17 = some t15) ?_ ?_ ?_
    · intro G' H' w' e'
      exact ⟨pot_here_1, (none), (none), (none), (none), w', e', rfl, hx16⟩
    · rintro i29 x30 σ' G25 H28 hx31 ⟨s17, u18, u19, u20, u21, w26, e27, rfl, hm23⟩
      obtain ⟨q24, hb22, hm23⟩ := forS_at hx31 hm23
      have h32 := Rep.mono _ e27 h9
      refine g_name ?_
      unfold m__law_pot_b1 at hb22
      obtain ⟨rest_34, hx35, hb22⟩ := bindS hb22
      refine x_setI w26 (e_cb rc_abs (ea_cons (e_op rr_ixScr (e_var (R := (rScr K)) (x := script0) rfl h32) (e_var (R := rI) (x := x30) rfl rfl)) ea_nil)) (by first | (simp only [be1, bs1, ba1] at hx35 ⊢; exact hx35) | exact hx35) ?_
      intro H36 w37
      obtain ⟨many_38, hx39, hb22⟩ := bindS hb22
      refine x_setI w37 e_int hx39 ?_
      intro H40 w41
      obtain ⟨s67, hx68, hb22⟩ := bindS hb22
      refine o_cut (fun σ' H' => ∃ G' : Hp, Wo G H [] G' H' [(p5, cL rI s17)] ∧ Evl.Ex G25 G' ∧ σ' = [some vscript0, some (V.ref p5), some (V.int x30), some (V.int s67.2), some (V.int s67.1), u18]) ?_ ?_
      · obtain ⟨b43, hx72, hx68⟩ := bindS hx68
        refine x_if w41 (et_T (e_op rr_lt (e_var (R := rI) (x := rest_34) rfl rfl) (e_op rr_pow e_int e_int))) (by first | (simp only [be1, bs1, ba1] at hx72 ⊢; exact hx72) | exact hx72) ?_ ?_
        · intro hbb43 H73 w74
          subst hbb43
          have hx68 := bifT hx68
          obtain ⟨rest_83, hx84, hx68⟩ := bindS hx68
          refine x_setI w74 (e_op rr_mod (e_cb rc_intI (ea_cons (e_op rr_mul (e_op rr_add (e_op rr_mul e_int (e_var (R := rI) (x := rest_34) rfl rfl)) (e_cb rc_intB (ea_cons (e_op rr_lt (e_op rr_ixScr (e_var (R := (rScr K)) (x := script0) rfl h32) (e_var (R := rI) (x := x30) rfl rfl)) e_int) ea_nil))) (e_op rr_add e_int (e_op rr_mul e_int (e_var (R := rI) (x := x30) rfl rfl)))) ea_nil)) e_int) (by first | (simp only [be1, bs1, ba1] at hx84 ⊢; exact hx84) | exact hx84) ?_
          intro H85 w86
          obtain ⟨rest_90, hx91, hx68⟩ := bindS hx68
          refine x_setI w86 (e_op rr_mod (e_cb rc_intI (ea_cons (e_op rr_add (e_op rr_mul (e_var (R := rI) (x := rest_83) rfl rfl) (e_var (R := rI) (x := rest_83) rfl rfl)) (e_op rr_mul (e_var (R := rI) (x := rest_83) rfl rfl) (e_var (R := rI) (x := x30) rfl rfl))) ea_nil)) e_int) (by first | (simp only [be1, bs1, ba1] at hx91 ⊢; exact hx91) | exact hx91) ?_
          intro H92 w93
          obtain ⟨many_94, hx95, hx68⟩ := bindS hx68
          refine x_setI w93 e_int hx95 ?_
          intro H96 w97
          refine x_next ?_
          have hx68 : (many_94, rest_90) = s67 := Option.some.inj hx68
          subst hx68
          exact ⟨G25, w97, (Evl.Ex.refl _), rfl⟩
        · intro hbb43 H98 w99
          subst hbb43
          have hx68 := bifF hx68
          refine x_next ?_
          have hx68 : (many_38, rest_34) = s67 := Option.some.inj hx68
          subst hx68
          exact ⟨G25, w99, (Evl.Ex.refl _), rfl⟩
      · rintro σ' H102 ⟨G100, w70, e69, rfl⟩
        have h101 := Rep.mono _ e69 h32
        obtain ⟨n103, hx104, hb22⟩ := bindS hb22
        obtain ⟨xs105, hx106, hb22⟩ := bindS hb22
        obtain ⟨t108, hx109, hb22⟩ := bindS hb22
        refine x_forR w70 (ea_cons (Sim.E.is (e_var (R := rI) (x := s67.1) rfl rfl) hx104) ea_nil) rfl hx106 (fun i G' H' σ' => ∃ s110 : ((List Int) × Int), ∃ u111 : Option V, Wo G H [] G' H' [(p5, cL rI s110.1)] ∧ Evl.Ex G100 G' ∧ σ' = [some vscript0, some (V.ref p5), some (V.int x30), some (V.int s110.2), some (V.int s67.1), u111] ∧ forS (m__law_pot_b2) (xs105.drop i) s110 = some t108) ?_ ?_ ?_
        · intro G' H' w' e'
          exact ⟨(s17, s67.2), (u18), w', e', rfl, hx109⟩
        · rintro i119 x120 σ' G115 H118 hx121 ⟨s110, u111, w116, e117, rfl, hm113⟩
          obtain ⟨q114, hb112, hm113⟩ := forS_at hx121 hm113
          have h122 := Rep.mono _ e117 h101
          refine g_name ?_
          unfold m__law_pot_b2 at hb112
          obtain ⟨s134, hx135, hb112⟩ := bindS hb112
          refine o_cut (fun σ' H' => ∃ G' : Hp, Wo G H [] G' H' [(p5, cL rI s134)] ∧ Evl.Ex G115 G' ∧ σ' = [some vscript0, some (V.ref p5), some (V.int x30), some (V.int s110.2), some (V.int s67.1), some (V.int x120)]) ?_ ?_
          · obtain ⟨b123, hx139, hx135⟩ := bindS hx135
            refine x_if w116 (et_orP (et_T (e_op rr_gt (e_var (R := rI) (x := s110.2) rfl rfl) e_int)) (et_T (e_op rr_eqI (e_var (R := rI) (x := x120) rfl rfl) e_int))) hx139 ?_ ?_
            · intro hbb123 H140 w141
              subst hbb123
              have hx135 := bifT hx135
              obtain ⟨a142, hx144, hx135⟩ := bindS hx135
              obtain ⟨pot_here_143, hx145, hx135⟩ := bindS hx135
              obtain ⟨hs146, rfl⟩ := appM_ok hx145
              refine x_app (j := 0) w141 rfl hs146 rfl (e_op rr_mod (e_cb rc_intI (ea_cons (e_var (R := rI) (x := s110.2) rfl rfl) ea_nil)) e_int) (by first | (simp only [be1, bs1, ba1] at hx144 ⊢; exact hx144) | exact hx144) ?_
              intro H147 G148 w149 e150
              have h151 := Rep.mono _ e150 h122
              have w149 : Wo G H [] G148 H147 [(p5, cL rI (s110.1 ++ [a142]))] := w149
              refine x_next ?_
              have hx135 : (s110.1 ++ [a142]) = s134 := Option.some.inj hx135
              subst hx135
              exact ⟨G148, w149, e150, rfl⟩
            · intro hbb123 H152 w153
              subst hbb123
              have hx135 := bifF hx135
              refine x_next ?_
              have hx135 : s110.1 = s134 := Option.some.inj hx135
              subst hx135
              exact ⟨G115, w153, (Evl.Ex.refl _), rfl⟩
          · rintro σ' H156 ⟨G154, w137, e136, rfl⟩
            have h155 := Rep.mono _ e136 h122
            obtain ⟨rest_157, hx158, hb112⟩ := bindS hb112
            refine x_setI w137 (e_op rr_fdiv (e_var (R := rI) (x := s110.2) rfl rfl) e_int) (by first | (simp only [be1, bs1, ba1] at hx158 ⊢; exact hx158) | exact hx158) ?_
            intro H159 w160
            refine x_next ?_
            have hb112 : (s134, rest_157) = q114 := Option.some.inj hb112
            subst hb112
            exact ⟨G154, (s134, rest_157), (some (V.int x120)), w160, (e117.trans e136), rfl, hm113⟩
        · rintro σ' G161 H164 ⟨s110, u111, w162, e163, rfl, hm113⟩
          have hm113 := forS_end hm113
          subst hm113
          have h166 := Rep.mono _ e163 h101
          refine x_next ?_
          have hb22 : s110.1 = q24 := Option.some.inj hb22
          subst hb22
          exact ⟨G161, s110.1, (u111), (some (V.int s67.1)), (some (V.int x30)), (some (V.int s110.2)), w162, ((e27.trans e69).trans e163), rfl, hm23⟩
    · rintro σ' G167 H170 ⟨s17, u18, u19, u20, u21, w168, e169, rfl, hm23⟩
      have hm23 := forS_end hm23
      subst hm23
      have h172 := Rep.mono _ e169 h9
      refine x_drop ?_
      obtain ⟨pot_here_173, hx174, h⟩ := bindS h
      cases hx174
      refine o_bm0 (j := 0) w168 rfl rfl (c_rev (j := 0) w168 rfl ?_)
      intro H175 w176
      have w176 : Wo G H [] G167 H175 [(p5, cL rI s17.reverse)] := w176
      have h : s17.reverse = r := Option.some.inj h
      subst h
      refine x_retO (o_var rfl ?_)
      exact k _ _ _ n7 w176.upE (w176.sub1 (i := 0) rfl)
def m__law_draw (pot_here0 : (List Int)) (many0 : Int) : Option (Int × (List Int)) :=
  (some ((pot_here0.length : Int) == (0 : Int)) >>= fun b177 => bif b177 then (some (0 : Int) >>= fun a181 => some (a181, pot_here0)) else (popM pot_here0 >>= fun x185 => (some many0 >>= fun x192 => (modM x185.1 x192 >>= fun x196 => some (x196, x185.2)))))
theorem sc__law_draw : FnScope ["_law_pot_here", "_law_many"] ["_law_pot_here", "_law_many"] (defScope s__law_draw) := ⟨rfl, rfl, rfl, by decide +kernel, rfl, by decide +kernel, by decide +kernel⟩
theorem ok__law_draw (T : Tx K mg) : Fk P w K mg base CX0 1 "_law_draw" ["_law_pot_here", "_law_many"] (P1 (aC rI aN) rI rI (fun ys i => m__law_draw ys i.1)) := by
  obtain ⟨fd, F⟩ := T.def_ 6 rfl
  have nd := sc__law_draw.nd
  refine fk_mk T.toTx (x := "_law_draw") (T.glo 7 rfl) F (fun _ _ _ _ _ _ us hl => match us, hl with | [_, _], _ => rfl) (F.ok sc__law_draw (fun vs H Q E h => ?_) (fun cdv A outer s H vs Q E hr h => ?_))
  · obtain ⟨G, ⟨l, ⟨many0, ⟨⟩⟩⟩, pot_here0, r, k', ⟨_, _, rfl, rfl, ⟨vmany0, _, rfl, hmany0, rfl⟩⟩, wd, h, k⟩ := h
    rfl
  · obtain ⟨G, ⟨l, ⟨many0, ⟨⟩⟩⟩, pot_here0, r, k', ⟨_, _, rfl, rfl, ⟨vmany0, _, rfl, hmany0, rfl⟩⟩, wd, h, k⟩ := h
    cases hmany0
    have w0 : Wo G H [l] G H _ := Wo.startC wd
    have h : m__law_draw pot_here0 many0 = some (r, k') := h
    unfold m__law_draw at h
    refine ⟨_, PSs.nox (pss_cons (ps_if (pt_cmpR op_eq (pe_callB (r := rLn K) call_len_seq (by rfl) (fr_len T) (by decide +kernel) (pa_cons (pv 0) pa_nil)) pe_int (nomark _)) (pss_cons (ps_ret pe_int) pss_nil) pss_nil) (pss_cons (ps_ret (pe_op op_mod (pe_callTy call_int1 (by rfl) (fr_int T) (by decide +kernel) (pa_cons (pe_bm0 PySem.F.plainAttrs_list PySem.F.slot_list_pop PySem.F.type_list_pop mt_pop (pv 0)) pa_nil)) (pv 1))) pss_nil)), ?_⟩
    obtain ⟨b177, hx178, h⟩ := bindS h
    refine x_if w0 (et_T (e_op rr_eqI (e_cb rc_lenL (ea_cons (e_var (R := (rL rI)) (x := pot_here0) rfl (w0.rlAt (i := 0) rfl)) ea_nil)) e_int)) hx178 ?_ ?_
    · intro hbb177 H179 w180
      subst hbb177
      have h := bifT h
      obtain ⟨a181, hx182, h⟩ := bindS h
      obtain ⟨h8, h9⟩ : a181 = r ∧ pot_here0 = k' := Prod.mk.inj (Option.some.inj h)
      subst h8
      subst h9
      exact x_ret w180 e_int hx182 (fun v9 H9 G9 w9 e9 r9 => k v9 H9 G9 w9.f (w9.sub1 (i := 0) rfl) r9)
    · intro hbb177 H183 w184
      subst hbb177
      have h := bifF h
      refine x_next ?_
      refine x_retO ?_
      refine o_op ?_
      refine o_cb ?_
      refine o_cons ?_
      obtain ⟨x185, hx186, h⟩ := bindS h
      refine o_bm0 (j := 0) w184 rfl rfl (c_pop (j := 0) w184 rfl hx186 ?_)
      intro v187 H188 w189 r190
      cases r190
      have w189 : Wo G H [l] G H188 [(l, cL rI x185.2)] := w189
      refine o_nil ?_
      refine Or.inl ⟨_, rfl, ?_⟩
      obtain ⟨x192, hx193, h⟩ := bindS h
      refine c_i w189 (e_var (R := rI) (x := many0) rfl rfl) hx193 ?_
      intro H194 w195
      obtain ⟨x196, hx197, h⟩ := bindS h
      refine c_rr rr_mod w195 rfl rfl hx197 ?_
      intro u198 H199 G200 w201 e202 r203
      cases r203
      obtain ⟨h8, h9⟩ : x196 = r ∧ x185.2 = k' := Prod.mk.inj (Option.some.inj h)
      subst h8
      subst h9
      exact k _ _ _ w201.f (w201.sub1 (i := 0) rfl) rfl
def m__law_names_b2 (s223 : ((List Str) × (List Int))) (x337 : Int) (s327 : Str) : Option Str :=
  ((some (s223.1.any fun z => z == s327) >>= fun b339 => bif b339 then (addS s327 ("x" : Str) >>= fun name_352 => some name_352) else some s327) >>= fun s344 => some (s344))
def m__law_names_b1 (signs_204 : Str) (x235 : Int) (s223 : ((List Str) × (List Int))) : Option ((List Str) × (List Int)) :=
  (some signs_204 >>= fun x237 => (some (62 : Int) >>= fun x242 => (m__law_draw s223.2 x242 >>= fun x247 => (ixS x237 x247.1 >>= fun x255 => (some (4 : Int) >>= fun x264 => (m__law_draw x247.2 x264 >>= fun x269 => (mulS x255 x269.1 >>= fun x277 => (some signs_204 >>= fun x286 => (some (62 : Int) >>= fun x291 => (m__law_draw x269.2 x291 >>= fun x296 => (ixS x286 x296.1 >>= fun x304 => (addS x277 x304 >>= fun x312 => (some x235 >>= fun n320 => rngM 0 n320 >>= fun xs322 => forS (m__law_names_b2 s223) xs322 x312 >>= fun s327 => (some s327 >>= fun a365 => appM s223.1 a365 >>= fun names_here_366 => some ((names_here_366, x296.2))))))))))))))))
def m__law_names (pot_here0 : (List Int)) (many0 : Int) : Option ((List Str) × (List Int)) :=
  (some ("abcdefghijklmnopqrstuvwxyzABCDEFGHIJKLMNOPQRSTUVWXYZ0123456789" : Str) >>= fun signs_204 => (some ([]) >>= fun names_here_208 => (some many0 >>= fun n216 => rngM 0 n216 >>= fun xs218 => forS (m__law_names_b1 signs_204) xs218 (names_here_208, pot_here0) >>= fun s223 => some (s223.1, s223.2))))
theorem sc__law_names : FnScope ["_law_pot_here", "_law_many", "_law_signs", "_law_names_here", "_law_k", "_law_name", "_law_other"] ["_law_pot_here", "_law_many"] (defScope s__law_names) := ⟨rfl, rfl, rfl, by decide +kernel, rfl, by decide +kernel, by decide +kernel⟩
theorem ok__law_names (T : Tx K mg) : Fk P w K mg base CX0 2 "_law_names" ["_law_pot_here", "_law_many"] (P1L (aC rI aN) rI rS (fun ys i => m__law_names ys i.1)) := by
  obtain ⟨fd__law_draw, G__law_draw, b__law_draw, k__law_draw, g__law_draw⟩ := ok__law_draw (w := w) (base := base) T
  obtain ⟨fd, F⟩ := T.def_ 8 rfl
  have nd := sc__law_names.nd
  refine fk_mk T.toTx (x := "_law_names") (T.glo 9 rfl) F (fun _ _ _ _ _ _ us hl => match us, hl with | [_, _], _ => rfl) (F.ok sc__law_names (fun vs H Q E h => ?_) (fun cdv A outer s H vs Q E hr h => ?_))
  · obtain ⟨G, ⟨l, ⟨many0, ⟨⟩⟩⟩, pot_here0, r, k', ⟨_, _, rfl, rfl, ⟨vmany0, _, rfl, hmany0, rfl⟩⟩, wd, h, k⟩ := h
    rfl
  · obtain ⟨G, ⟨l, ⟨many0, ⟨⟩⟩⟩, pot_here0, r, k', ⟨_, _, rfl, rfl, ⟨vmany0, _, rfl, hmany0, rfl⟩⟩, wd, h, k⟩ := h
    cases hmany0
    have w0 : Wo G H [l] G H _ := Wo.startC wd
    have h : m__law_names pot_here0 many0 = some (r, k') := h
    unfold m__law_names at h
    refine ⟨_, PSs.nox (pss_cons (ps_set (i := 2) nd rfl (Or.inl rfl) pe_str) (pss_cons (ps_set (i := 3) nd rfl (Or.inl rfl) (pe_lst pa_nil)) (pss_cons (ps_for PassesOwn.never rfl (pi_range1 (by rfl) (fr_range T) (pa_cons (pv 1) pa_nil)) (pg_name (i := 4) nd rfl (Or.inl rfl)) (pss_cons (ps_set (i := 5) nd rfl (Or.inl rfl) (pe_op (r := rAddS) op_add_str (pe_op (r := rMulS) op_mulS (pe_ix (r := rIxS) ix_str (pv 2) (pe_call G__law_draw (hr.mono (by decide)) rfl g__law_draw k__law_draw b__law_draw .nil pass0 (pa_cons (pv 0) (pa_cons pe_int pa_nil))) (fun _ _ => rfl)) (pe_call G__law_draw (hr.mono (by decide)) rfl g__law_draw k__law_draw b__law_draw .nil pass0 (pa_cons (pv 0) (pa_cons pe_int pa_nil)))) (pe_ix (r := rIxS) ix_str (pv 2) (pe_call G__law_draw (hr.mono (by decide)) rfl g__law_draw k__law_draw b__law_draw .nil pass0 (pa_cons (pv 0) (pa_cons pe_int pa_nil))) (fun _ _ => rfl)))) (pss_cons (ps_for PassesOwn.never rfl (pi_range1 (by rfl) (fr_range T) (pa_cons (pv 4) pa_nil)) (pg_name (i := 6) nd rfl (Or.inl rfl)) (Evl.pss_cut (ps_if (pt_cmpR (r := rIn K false) op_in_seq (pv 5) (pv 3) (by rfl)) (pss_cons (ps_set (i := 5) nd rfl (Or.inl rfl) (pe_op (r := rAddS) op_add_str (pv 5) pe_str)) pss_nil) pss_nil) pss_nil)) (pss_cons (ps_expr (pe_bm PySem.F.plainAttrs_list PySem.F.slot_list_append PySem.F.type_list_append mt_append (pv 3) (pa_cons (pv 5) pa_nil))) pss_nil)))) (pss_cons (ps_ret (pv 3)) pss_nil)))), ?_⟩
    obtain ⟨signs_204, hx205, h⟩ := bindS h
    refine x_setS w0 e_str hx205 ?_
    intro H206 w207
    obtain ⟨names_here_208, hx209, h⟩ := bindS h
    refine x_setL w207 (el_disp (R := rS) eal_nil) hx209 ?_
    intro p212 H210 G213 n214 w211 e215
    obtain ⟨n216, hx217, h⟩ := bindS h
    obtain ⟨xs218, hx219, h⟩ := bindS h
    obtain ⟨t221, hx222, h⟩ := bindS h
    refine x_forR w211 (ea_cons (Sim.E.is (e_var (R := rI) (x := many0) rfl rfl) hx217) ea_nil) rfl hx219 (fun i G' H' σ' => ∃ s223 : ((List Str) × (List Int)), ∃ u224 : Option V, ∃ u225 : Option V, ∃ u226 : Option V, Wo G H [l] G' H' [(p212, cL rS s223.1), (l, cL rI s223.2)] ∧ Evl.Ex G213 G' ∧ σ' = [some (V.ref l), some (V.int many0), some (V.str signs_204), some (V.ref p212), u224, u225, u226] ∧ forS (m__law_names_b1 signs_204) (xs218.drop i) s223 = some t221) ?_ ?_ ?_
    · intro G' H' w' e'
      exact ⟨(names_here_208, pot_here0), (none), (none), (none), w', e', rfl, hx222⟩
    · rintro i234 x235 σ' G230 H233 hx236 ⟨s223, u224, u225, u226, w231, e232, rfl, hm228⟩
      obtain ⟨q229, hb227, hm228⟩ := forS_at hx236 hm228
      refine g_name ?_
      unfold m__law_names_b1 at hb227
      refine x_setO ?_
      refine o_op ?_
      refine o_op ?_
      refine o_op ?_
      obtain ⟨x237, hx238, hb227⟩ := bindS hb227
      refine c_s w231 (e_var (R := rS) (x := signs_204) rfl rfl) hx238 ?_
      intro H239 w240
      refine o_call ?_
      refine o_cons ?_
      refine o_var rfl ?_
      refine o_cons ?_
      obtain ⟨x242, hx243, hb227⟩ := bindS hb227
      refine c_i w240 e_int hx243 ?_
      intro H244 w245
      refine o_nil ?_
      obtain ⟨x247, hx248, hb227⟩ := bindS hb227
      refine c_p1 (i := 1) (j := (x242, ())) w245 rfl ⟨_, _, rfl, rfl, rfl⟩ hx248 ?_
      intro u249 H250 G251 w252 e253 r254
      cases r254
      have w252 : Wo G H [l] G251 H250 [(p212, cL rS s223.1), (l, cL rI x247.2)] := w252
      obtain ⟨x255, hx256, hb227⟩ := bindS hb227
      refine c_rr rr_ixS w252 rfl rfl hx256 ?_
      intro u257 H258 G259 w260 e261 r262
      cases r262
      refine o_call ?_
      refine o_cons ?_
      refine o_var rfl ?_
      refine o_cons ?_
      obtain ⟨x264, hx265, hb227⟩ := bindS hb227
      refine c_i w260 e_int hx265 ?_
      intro H266 w267
      refine o_nil ?_
      obtain ⟨x269, hx270, hb227⟩ := bindS hb227
      refine c_p1 (i := 1) (j := (x264, ())) w267 rfl ⟨_, _, rfl, rfl, rfl⟩ hx270 ?_
      intro u271 H272 G273 w274 e275 r276
      cases r276
      have w274 : Wo G H [l] G273 H272 [(p212, cL rS s223.1), (l, cL rI x269.2)] := w274
      obtain ⟨x277, hx278, hb227⟩ := bindS hb227
      refine c_rr rr_mulS w274 rfl rfl hx278 ?_
      intro u279 H280 G281 w282 e283 r284
      cases r284
      refine o_op ?_
      obtain ⟨x286, hx287, hb227⟩ := bindS hb227
      refine c_s w282 (e_var (R := rS) (x := signs_204) rfl rfl) hx287 ?_
      intro H288 w289
      refine o_call ?_
      refine o_cons ?_
      refine o_var rfl ?_
      refine o_cons ?_
      obtain ⟨x291, hx292, hb227⟩ := bindS hb227
      refine c_i w289 e_int hx292 ?_
      intro H293 w294
      refine o_nil ?_
      obtain ⟨x296, hx297, hb227⟩ := bindS hb227
      refine c_p1 (i := 1) (j := (x291, ())) w294 rfl ⟨_, _, rfl, rfl, rfl⟩ hx297 ?_
      intro u298 H299 G300 w301 e302 r303
      cases r303
      have w301 : Wo G H [l] G300 H299 [(p212, cL rS s223.1), (l, cL rI x296.2)] := w301
      obtain ⟨x304, hx305, hb227⟩ := bindS hb227
      refine c_rr rr_ixS w301 rfl rfl hx305 ?_
      intro u306 H307 G308 w309 e310 r311
      cases r311
      obtain ⟨x312, hx313, hb227⟩ := bindS hb227
      refine c_rr rr_addS w309 rfl rfl hx313 ?_
      intro u314 H315 G316 w317 e318 r319
      cases r319
      obtain ⟨n320, hx321, hb227⟩ := bindS hb227
      obtain ⟨xs322, hx323, hb227⟩ := bindS hb227
      obtain ⟨t325, hx326, hb227⟩ := bindS hb227
      refine x_forR w317 (ea_cons (Sim.E.is (e_var (R := rI) (x := x235) rfl rfl) hx321) ea_nil) rfl hx323 (fun i G' H' σ' => ∃ s327 : Str, ∃ u328 : Option V, Wo G H [l] G' H' [(p212, cL rS s223.1), (l, cL rI x296.2)] ∧ Evl.Ex G316 G' ∧ σ' = [some (V.ref l), some (V.int many0), some (V.str signs_204), some (V.ref p212), some (V.int x235), some (V.str s327), u328] ∧ forS (m__law_names_b2 s223) (xs322.drop i) s327 = some t325) ?_ ?_ ?_
      · intro G' H' w' e'
        exact ⟨x312, (u226), w', e', rfl, hx326⟩
      · rintro i336 x337 σ' G332 H335 hx338 ⟨s327, u328, w333, e334, rfl, hm330⟩
        obtain ⟨q331, hb329, hm330⟩ := forS_at hx338 hm330
        refine g_name ?_
        unfold m__law_names_b2 at hb329
        obtain ⟨s344, hx345, hb329⟩ := bindS hb329
        refine o_cut (fun σ' H' => ∃ G' : Hp, Wo G H [l] G' H' [(p212, cL rS s223.1), (l, cL rI x296.2)] ∧ Evl.Ex G332 G' ∧ σ' = [some (V.ref l), some (V.int many0), some (V.str signs_204), some (V.ref p212), some (V.int x235), some (V.str s344), some (V.int x337)]) ?_ ?_
        · obtain ⟨b339, hx349, hx345⟩ := bindS hx345
          refine x_if w333 (et_T (e_op (rr_inL flS) (e_var (R := rS) (x := s327) rfl rfl) (e_var (R := (rL rS)) (x := s223.1) rfl (w333.rlAt (i := 0) rfl)))) hx349 ?_ ?_
          · intro hbb339 H350 w351
            subst hbb339
            have hx345 := bifT hx345
            obtain ⟨name_352, hx353, hx345⟩ := bindS hx345
            refine x_setS w351 (e_op rr_addS (e_var (R := rS) (x := s327) rfl rfl) e_str) (by first | (simp only [be1, bs1, ba1] at hx353 ⊢; exact hx353) | exact hx353) ?_
            intro H354 w355
            refine x_next ?_
            have hx345 : name_352 = s344 := Option.some.inj hx345
            subst hx345
            exact ⟨G332, w355, (Evl.Ex.refl _), rfl⟩
          · intro hbb339 H356 w357
            subst hbb339
            have hx345 := bifF hx345
            refine x_next ?_
            have hx345 : s327 = s344 := Option.some.inj hx345
            subst hx345
            exact ⟨G332, w357, (Evl.Ex.refl _), rfl⟩
        · rintro σ' H359 ⟨G358, w347, e346, rfl⟩
          refine x_next ?_
          have hb329 : s344 = q331 := Option.some.inj hb329
          subst hb329
          exact ⟨G358, s344, (some (V.int x337)), w347, (e334.trans e346), rfl, hm330⟩
      · rintro σ' G360 H363 ⟨s327, u328, w361, e362, rfl, hm330⟩
        have hm330 := forS_end hm330
        subst hm330
        obtain ⟨a365, hx367, hb227⟩ := bindS hb227
        obtain ⟨names_here_366, hx368, hb227⟩ := bindS hb227
        obtain ⟨hs369, rfl⟩ := appM_ok hx368
        refine x_app (j := 0) w361 rfl hs369 rfl (e_var (R := rS) (x := s327) rfl rfl) hx367 ?_
        intro H370 G371 w372 e373
        have w372 : Wo G H [l] G371 H370 [(p212, cL rS (s223.1 ++ [a365])), (l, cL rI x296.2)] := w372
        refine x_next ?_
        have hb227 : ((s223.1 ++ [a365]), x296.2) = q229 := Option.some.inj hb227
        subst hb227
        exact ⟨G371, ((s223.1 ++ [a365]), x296.2), (some (V.int x235)), (some (V.str s327)), (u328), w372, (((((((((e232.trans e253).trans e261).trans e275).trans e283).trans e302).trans e310).trans e318).trans e362).trans e373), rfl, hm228⟩
    · rintro σ' G374 H377 ⟨s223, u224, u225, u226, w375, e376, rfl, hm228⟩
      have hm228 := forS_end hm228
      subst hm228
      obtain ⟨h8, h9⟩ : s223.1 = r ∧ s223.2 = k' := Prod.mk.inj (Option.some.inj h)
      subst h8
      subst h9
      refine x_retO (o_var rfl ?_)
      exact k _ _ _ n214 w375.f (w375.sub2 (i := 0) (j := 1) rfl rfl (by decide))
def m_Record___init___b1 (x404 : (Str × Int)) (s393 : (List Str)) : Option (List Str) :=
  (some (s393.any fun z => z == x404.1) >>= fun b416 => bif b416 then none else (some x404.1 >>= fun a422 => appM s393 a422 >>= fun names_423 => some (names_423)))
def m_Record___init__ (name0 : Str) (asks0 : (List (Str × Int))) (result0 : Int) : Option m_Record :=
  (some ([]) >>= fun names_379 => (some asks0 >>= fun xs388 => forS (m_Record___init___b1) xs388 names_379 >>= fun s393 => (some name0 >>= fun f439 => ((mapS (fun x449 => some (x449.1, x449.2)) asks0 >>= fun t457 => some t457) >>= fun f458 => (some result0 >>= fun f465 => some (m_Record.mk f439 f458 f465))))))
theorem sc_Record___init__ : FnScope ["self", "name", "asks", "result", "names", "asked", "answer"] ["self", "name", "asks", "result"] (defScope s_Record___init__) := ⟨rfl, rfl, rfl, by decide +kernel, rfl, by decide +kernel, by decide +kernel⟩
theorem ok_Record___init__ (T : Tx K mg) : Fm P w K mg base CX0 1 "Record" "__init__" ["self", "name", "asks", "result"] (PIs (He.ga K "Record") (aC rS (aC (rL (rP rS rI)) (aC rI aN))) (fl_Record K) (fun i => m_Record___init__ i.1 i.2.1 i.2.2.1)) := by
  obtain ⟨fd, F⟩ := T.def_ 0 rfl
  have nd := sc_Record___init__.nd
  refine fm_mk F (fun _ _ _ _ _ _ us hl => match us, hl with | [_, _, _, _], _ => rfl) (F.ok sc_Record___init__ (fun vs H Q E h => ?_) (fun cdv A outer s H vs Q E hr h => ?_))
  · obtain ⟨G, l, ld, _, ⟨name0, asks0, result0, ⟨⟩⟩, r, rfl, wd, ⟨vname0, _, rfl, hname0, vasks0, _, rfl, hasks0, vresult0, _, rfl, hresult0, rfl⟩, h, k⟩ := h
    rfl
  · obtain ⟨G, l, ld, _, ⟨name0, asks0, result0, ⟨⟩⟩, r, rfl, wd, ⟨vname0, _, rfl, hname0, vasks0, _, rfl, hasks0, vresult0, _, rfl, hresult0, rfl⟩, h, k⟩ := h
    cases hname0
    cases hresult0
    have w0 : Wo G H [l, ld] G H _ := Wo.startC wd
    have h : m_Record___init__ name0 asks0 result0 = some r := h
    unfold m_Record___init__ at h
    refine ⟨_, PSs.nox (pss_cons (ps_set (i := 4) nd rfl (Or.inl rfl) (pe_lst pa_nil)) (pss_cons (ps_for PassesOwn.never rfl (pi_list (pv 2)) (pg_tup (by rfl) (pgs_cons (pg_name (i := 5) nd rfl (by first | exact Or.inl rfl | exact Or.inr rfl)) (pgs_cons (pg_name (i := 6) nd rfl (by first | exact Or.inl rfl | exact Or.inr rfl)) pgs_nil))) (pss_cons (ps_if (pt_cmpR (r := rIn K false) op_in_seq (pv 5) (pv 4) (by rfl)) (pss_cons ps_never pss_nil) pss_nil) (pss_cons (ps_expr (pe_bm PySem.F.plainAttrs_list PySem.F.slot_list_append PySem.F.type_list_append mt_append (pv 4) (pa_cons (pv 5) pa_nil))) pss_nil))) (pss_cons (SlX.ps_sl (pv 0) (pv 1) (by rfl)) (pss_cons (SlX.ps_sl (pv 0) (pe_callTy (r := rTp K) call_tuple_of (by rfl) (fr_tuple T) (by decide +kernel) (pa_cons (pe_lc (own := [("asked", 5), ("answer", 6)]) (by rfl) nd (show L2.PI _ _ _ (iList K _) from pi_list (pv 2)) (blkOk_by (by kernel_rfl)) (fun _ _ _ _ _ => show L2.PG _ _ (gTup K 2 (gCons (gName 5) (gCons (gName 6) gNil))) from pg_tup (by rfl) (pgs_cons (pg_name (i := 5) nd rfl (by first | exact Or.inl rfl | exact Or.inr rfl)) (pgs_cons (pg_name (i := 6) nd rfl (by first | exact Or.inl rfl | exact Or.inr rfl)) pgs_nil))) (fun _ _ _ _ _ => pts_nil) (fun _ _ _ _ _ => (pe_tup (pa_cons (pv 5) (pa_cons (pv 6) pa_nil))))) pa_nil)) (by rfl)) (pss_cons (SlX.ps_sl (pv 0) (pv 3) (by rfl)) pss_nil))))), ?_⟩
    obtain ⟨names_379, hx380, h⟩ := bindS h
    refine x_setL w0 (el_disp (R := rS) eal_nil) hx380 ?_
    intro p383 H381 G384 n385 w382 e386
    have h387 := Rep.mono _ e386 hasks0
    obtain ⟨xs388, hx389, h⟩ := bindS h
    obtain ⟨t391, hx392, h⟩ := bindS h
    refine x_forL w382 (e_var (R := (rL (rP rS rI))) (x := asks0) rfl h387) hx389 (fun i G' H' σ' => ∃ s393 : (List Str), ∃ u394 : Option V, ∃ u395 : Option V, Wo G H [l, ld] G' H' [(p383, cL rS s393), (l, cN (He.ga K "Record") ld), (ld, cOw l)] ∧ Evl.Ex G384 G' ∧ σ' = [some (V.ref l), some (V.str name0), some vasks0, some (V.int result0), some (V.ref p383), u395, u394] ∧ forS (m_Record___init___b1) (xs388.drop i) s393 = some t391) (fun _ _ _ _ ⟨_, _, _, w, _⟩ => w.ex) ?_ ?_ ?_
    · intro G' H' w' e'
      exact ⟨names_379, (none), (none), w', e', rfl, hx392⟩
    · rintro G406 e407 i403 x404 v408 σ' G399 H402 hx405 e410 ⟨s393, u394, u395, w400, e401, rfl, hm397⟩ r409
      obtain ⟨q398, hb396, hm397⟩ := forS_at hx405 hm397
      have h411 := Rep.mono _ e401 h387
      refine g_pair (i := 5) (j := 6) r409 w400.ex ?_
      intro v412 v413 r414 r415
      cases r414
      cases r415
      unfold m_Record___init___b1 at hb396
      obtain ⟨b416, hx417, hb396⟩ := bindS hb396
      refine x_if w400 (et_T (e_op (rr_inL flS) (e_var (R := rS) (x := x404.1) rfl rfl) (e_var (R := (rL rS)) (x := s393) rfl (w400.rlAt (i := 0) rfl)))) hx417 ?_ ?_
      · intro hbb416 H418 w419
        subst hbb416
        have hb396 := bifT hb396
        cases (show none = some _ from hb396)
      · intro hbb416 H420 w421
        subst hbb416
        have hb396 := bifF hb396
        refine x_next ?_
        obtain ⟨a422, hx424, hb396⟩ := bindS hb396
        obtain ⟨names_423, hx425, hb396⟩ := bindS hb396
        obtain ⟨hs426, rfl⟩ := appM_ok hx425
        refine x_app (j := 0) w421 rfl hs426 rfl (e_var (R := rS) (x := x404.1) rfl rfl) hx424 ?_
        intro H427 G428 w429 e430
        have h431 := Rep.mono _ e430 h411
        have w429 : Wo G H [l, ld] G428 H427 [(p383, cL rS (s393 ++ [a422])), (l, cN (He.ga K "Record") ld), (ld, cOw l)] := w429
        refine x_next ?_
        have hb396 : (s393 ++ [a422]) = q398 := Option.some.inj hb396
        subst hb396
        exact ⟨G428, (e410.trans e430), (s393 ++ [a422]), (some (V.int x404.2)), (some (V.str x404.1)), w429, (e401.trans e430), rfl, hm397⟩
    · rintro σ' G432 H435 e436 ⟨s393, u394, u395, w433, e434, rfl, hm397⟩
      have hm397 := forS_end hm397
      subst hm397
      have h438 := Rep.mono _ e434 h387
      obtain ⟨f439, hx440, h⟩ := bindS h
      refine x_sl1 (j := 1) (j2 := 2) w433 rfl rfl rfl (e_var (R := rS) (x := name0) rfl rfl) hx440 (scl_ok (T.mo 0 rfl)) (slot_ok (T.mo 1 rfl)) (by decide) ?_
      intro H441 G442 w443 e444
      have h445 := Rep.mono _ e444 h438
      have w443 : Wo G H [l, ld] G442 H441 [(p383, cL rS s393), (l, cSl l (He.ga K "Record") ld [(1, pd rS f439)]), (ld, cXd)] := w443
      obtain ⟨f458, hx459, h⟩ := bindS h
      refine x_slN (j := 1) (j2 := 2) w443 rfl rfl rfl (e_cb rc_tupleL (ea_cons (EL.e (el_map (el_lcP (j := 6) (e_var (R := (rL (rP rS rI))) (x := asks0) rfl h445) (fun _ _ => rfl) (fun _ _ _ _ _ _ _ _ _ _ => et_yes) (fun x449 v452 v453 G450 W451 eG446 eW447 eX448 h454 h455 => (e_pair (e_var (R := rS) (x := x449.1) rfl h454) (e_var (R := rI) (x := x449.2) rfl h455)))))) ea_nil)) (by first | (simp only [be1, bs1, ba1] at hx459 ⊢; exact hx459) | exact hx459) (scl_ok (T.mo 0 rfl)) (slot_ok (T.mo 2 rfl)) (by decide) (by simp) ?_
      intro H460 G461 w462 e463
      have h464 := Rep.mono _ e463 h445
      have w462 : Wo G H [l, ld] G461 H460 [(p383, cL rS s393), (l, cSl l (He.ga K "Record") ld [(1, pd rS f439), (0, pd (rT (rP rS rI)) f458)]), (ld, cXd)] := w462
      obtain ⟨f465, hx466, h⟩ := bindS h
      refine x_slN (j := 1) (j2 := 2) w462 rfl rfl rfl (e_var (R := rI) (x := result0) rfl rfl) hx466 (scl_ok (T.mo 0 rfl)) (slot_ok (T.mo 3 rfl)) (by decide) (by simp) ?_
      intro H467 G468 w469 e470
      have h471 := Rep.mono _ e470 h464
      have w469 : Wo G H [l, ld] G468 H467 [(p383, cL rS s393), (l, cSl l (He.ga K "Record") ld [(1, pd rS f439), (0, pd (rT (rP rS rI)) f458), (2, pd rI f465)]), (ld, cXd)] := w469
      refine x_next ?_
      have h : (m_Record.mk f439 f458 f465) = r := Option.some.inj h
      subst h
      exact k _ _ w469.f (w469.sub2 (i := 1) (j := 2) rfl rfl (by decide))
def m_Record___init___X_b1 (x497 : (Str × Int)) (s486 : (List Str)) : Option (Stp (List Str) (Xn ⊕ m_Record)) :=
  (some (s486.any fun z => z == x497.1) >>= fun b509 => bif b509 then (some x497.1 >>= fun a513 => some (Stp.rt (Sum.inl ⟨"AskedTwice", [("name", .str a513)]⟩ : Xn ⊕ m_Record))) else (some x497.1 >>= fun a517 => appM s486 a517 >>= fun names_518 => some (Stp.nx names_518)))
def m_Record___init___X (name0 : Str) (asks0 : (List (Str × Int))) (result0 : Int) : Option (Xn ⊕ m_Record) :=
  (some ([]) >>= fun names_472 => (some asks0 >>= fun xs481 => forL (m_Record___init___X_b1) xs481 names_472 >>= Sum.elim (fun s486 => (some name0 >>= fun f534 => ((mapS (fun x544 => some (x544.1, x544.2)) asks0 >>= fun t552 => some t552) >>= fun f553 => (some result0 >>= fun f560 => some (Sum.inr (m_Record.mk f534 f553 f560) : Xn ⊕ m_Record))))) (fun r => some r)))
theorem sc_Record___init___X : FnScope ["self", "name", "asks", "result", "names", "asked", "answer"] ["self", "name", "asks", "result"] (defScope s_Record___init__) := ⟨rfl, rfl, rfl, by decide +kernel, rfl, by decide +kernel, by decide +kernel⟩
theorem ok_Record___init___X (T : Tx K mg) : Fm P w K mg base (L2.CX P w) 3 "Record" "__init__" ["self", "name", "asks", "result"] (PXIs K (He.ga K "Record") (aC rS (aC (rL (rP rS rI)) (aC rI aN))) (fl_Record K) (fun i => m_Record___init___X i.1 i.2.1 i.2.2.1)) := by
  obtain ⟨fI_AskedTwice, b_AskedTwice, F_AskedTwice⟩ := okx_AskedTwice (w := w) (base := base) T
  have Y_AskedTwice := known_AskedTwice T
  have g_AskedTwice := T.glo 2 rfl
  obtain ⟨fd, F⟩ := T.def_ 0 rfl
  have nd := sc_Record___init___X.nd
  refine fm_mk F (fun _ _ _ _ _ _ us hl => match us, hl with | [_, _, _, _], _ => rfl) (F.ok sc_Record___init___X (fun vs H Q E h => ?_) (fun cdv A outer s H vs Q E hr h => ?_))
  · obtain ⟨G, l, ld, _, ⟨name0, asks0, result0, ⟨⟩⟩, r, rfl, wd, ⟨vname0, _, rfl, hname0, vasks0, _, rfl, hasks0, vresult0, _, rfl, hresult0, rfl⟩, h, kx, k⟩ := h
    rfl
  · obtain ⟨G, l, ld, _, ⟨name0, asks0, result0, ⟨⟩⟩, r, rfl, wd, ⟨vname0, _, rfl, hname0, vasks0, _, rfl, hasks0, vresult0, _, rfl, hresult0, rfl⟩, h, kx, k⟩ := h
    cases hname0
    cases hresult0
    have w0 : Wo G H [l, ld] G H _ := Wo.startC wd
    have h : m_Record___init___X name0 asks0 result0 = some r := h
    unfold m_Record___init___X at h
    have tk := takes_of (X := cxOf (L2.CX P w) P w K mg base ["self", "name", "asks", "result", "names", "asked", "answer"] "Record.__init__" (defScope s_Record___init__) (He.fAd K ("Record", some "__init__")) cdv A outer s H E) rfl rfl rfl (E := E) rfl
    refine ⟨_, (pss_cons (ps_set (i := 4) nd rfl (Or.inl rfl) (pe_lst pa_nil)) (pss_cons (ps_for (passes_of rfl) rfl (pi_list (pv 2)) (pg_tup (by rfl) (pgs_cons (pg_name (i := 5) nd rfl (by first | exact Or.inl rfl | exact Or.inr rfl)) (pgs_cons (pg_name (i := 6) nd rfl (by first | exact Or.inl rfl | exact Or.inr rfl)) pgs_nil))) (pss_cons (ps_if (pt_cmpR (r := rIn K false) op_in_seq (pv 5) (pv 4) (by rfl)) (pss_cons (ps_raise rfl tk (pmk_oex Y_AskedTwice.oex Y_AskedTwice.ini Y_AskedTwice.ty F_AskedTwice (hr.mono (by decide)) b_AskedTwice .nil pass0 rfl g_AskedTwice (pa_cons (pv 5) pa_nil))) pss_nil) pss_nil) (pss_cons (ps_expr (pe_bm PySem.F.plainAttrs_list PySem.F.slot_list_append PySem.F.type_list_append mt_append (pv 4) (pa_cons (pv 5) pa_nil))) pss_nil))) (pss_cons (SlX.ps_sl (pv 0) (pv 1) (by rfl)) (pss_cons (SlX.ps_sl (pv 0) (pe_callTy (r := rTp K) call_tuple_of (by rfl) (fr_tuple T) (by decide +kernel) (pa_cons (pe_lc (own := [("asked", 5), ("answer", 6)]) (by rfl) nd (show L2.PI _ _ _ (iList K _) from pi_list (pv 2)) (blkOk_by (by kernel_rfl)) (fun _ _ _ _ _ => show L2.PG _ _ (gTup K 2 (gCons (gName 5) (gCons (gName 6) gNil))) from pg_tup (by rfl) (pgs_cons (pg_name (i := 5) nd rfl (by first | exact Or.inl rfl | exact Or.inr rfl)) (pgs_cons (pg_name (i := 6) nd rfl (by first | exact Or.inl rfl | exact Or.inr rfl)) pgs_nil))) (fun _ _ _ _ _ => pts_nil) (fun _ _ _ _ _ => (pe_tup (pa_cons (pv 5) (pa_cons (pv 6) pa_nil))))) pa_nil)) (by rfl)) (pss_cons (SlX.ps_sl (pv 0) (pv 3) (by rfl)) pss_nil))))), ?_⟩
    obtain ⟨names_472, hx473, h⟩ := bindS h
    refine x_setL w0 (el_disp (R := rS) eal_nil) hx473 ?_
    intro p476 H474 G477 n478 w475 e479
    have h480 := Rep.mono _ e479 hasks0
    obtain ⟨xs481, hx482, h⟩ := bindS h
    obtain ⟨t484, hx485, h⟩ := bindS h
    refine x_forL w475 (e_var (R := (rL (rP rS rI))) (x := asks0) rfl h480) hx482 (fun i G' H' σ' => ∃ s486 : (List Str), ∃ u487 : Option V, ∃ u488 : Option V, Wo G H [l, ld] G' H' [(p476, cL rS s486), (l, cN (He.ga K "Record") ld), (ld, cOw l)] ∧ Evl.Ex G477 G' ∧ σ' = [some (V.ref l), some (V.str name0), some vasks0, some (V.int result0), some (V.ref p476), u488, u487] ∧ forL (m_Record___init___X_b1) (xs481.drop i) s486 = some t484) (fun _ _ _ _ ⟨_, _, _, w, _⟩ => w.ex) ?_ ?_ ?_
    · intro G' H' w' e'
      exact ⟨names_472, (none), (none), w', e', rfl, hx485⟩
    · rintro G499 e500 i496 x497 v501 σ' G492 H495 hx498 e503 ⟨s486, u487, u488, w493, e494, rfl, hm490⟩ r502
      obtain ⟨q491, hb489, hm490⟩ := forL_at hx498 hm490
      have h504 := Rep.mono _ e494 h480
      refine g_pair (i := 5) (j := 6) r502 w493.ex ?_
      intro v505 v506 r507 r508
      cases r507
      cases r508
      unfold m_Record___init___X_b1 at hb489
      obtain ⟨b509, hx510, hb489⟩ := bindS hb489
      refine x_if w493 (et_T (e_op (rr_inL flS) (e_var (R := rS) (x := x497.1) rfl rfl) (e_var (R := (rL rS)) (x := s486) rfl (w493.rlAt (i := 0) rfl)))) hx510 ?_ ?_
      · intro hbb509 H511 w512
        subst hbb509
        have hb489 := bifT hb489
        obtain ⟨a513, hx514, hb489⟩ := bindS hb489
        have hb489 : some (Stp.rt (Sum.inl ⟨"AskedTwice", [("name", .str a513)]⟩ : Xn ⊕ m_Record)) = some q491 := hb489
        cases hb489
        have hm490 : some (Sum.inr (Sum.inl ⟨"AskedTwice", [("name", .str a513)]⟩ : Xn ⊕ m_Record)) = some t484 := hm490
        cases hm490
        have h : (Sum.inl ⟨"AskedTwice", [("name", .str a513)]⟩ : Xn ⊕ m_Record) = r := Option.some.inj h
        subst h
        refine x_raise (A := (aC rS aN)) (i := (a513, ())) w512 (ea_cons (e_var (R := rS) (x := x497.1) rfl rfl) ea_nil) (by first | (simp only [hx514, Option.bind_eq_bind, Option.bind_some]) | (cases hx514; rfl)) (fun G9 vs9 r9 => by obtain ⟨u0, _, rfl, q0, rfl⟩ := r9; exact ⟨rfl, by simp⟩) ?_
        intro vs9 H9 G9 d9 w9 r9 e9 hd9
        obtain ⟨u0, _, rfl, q0, rfl⟩ := r9
        exact kx _ rfl d9 H9 G9 w9.f w9.ex (Xat_mk (names := ["name"]) (xs := [.str a513]) (by decide) hd9 (.cons q0 .nil))
      · intro hbb509 H515 w516
        subst hbb509
        have hb489 := bifF hb489
        refine x_next ?_
        obtain ⟨a517, hx519, hb489⟩ := bindS hb489
        obtain ⟨names_518, hx520, hb489⟩ := bindS hb489
        obtain ⟨hs521, rfl⟩ := appM_ok hx520
        refine x_app (j := 0) w516 rfl hs521 rfl (e_var (R := rS) (x := x497.1) rfl rfl) hx519 ?_
        intro H522 G523 w524 e525
        have h526 := Rep.mono _ e525 h504
        have w524 : Wo G H [l, ld] G523 H522 [(p476, cL rS (s486 ++ [a517])), (l, cN (He.ga K "Record") ld), (ld, cOw l)] := w524
        refine x_next ?_
        have hb489 : Stp.nx (s486 ++ [a517]) = q491 := Option.some.inj hb489
        subst hb489
        exact ⟨G523, (e503.trans e525), (s486 ++ [a517]), (some (V.int x497.2)), (some (V.str x497.1)), w524, (e494.trans e525), rfl, hm490⟩
    · rintro σ' G527 H530 e531 ⟨s486, u487, u488, w528, e529, rfl, hm490⟩
      have hm490 := forL_end hm490
      subst hm490
      have h := elimL h
      have h533 := Rep.mono _ e529 h480
      obtain ⟨f534, hx535, h⟩ := bindS h
      refine x_sl1 (j := 1) (j2 := 2) w528 rfl rfl rfl (e_var (R := rS) (x := name0) rfl rfl) hx535 (scl_ok (T.mo 0 rfl)) (slot_ok (T.mo 1 rfl)) (by decide) ?_
      intro H536 G537 w538 e539
      have h540 := Rep.mono _ e539 h533
      have w538 : Wo G H [l, ld] G537 H536 [(p476, cL rS s486), (l, cSl l (He.ga K "Record") ld [(1, pd rS f534)]), (ld, cXd)] := w538
      obtain ⟨f553, hx554, h⟩ := bindS h
      refine x_slN (j := 1) (j2 := 2) w538 rfl rfl rfl (e_cb rc_tupleL (ea_cons (EL.e (el_map (el_lcP (j := 6) (e_var (R := (rL (rP rS rI))) (x := asks0) rfl h540) (fun _ _ => rfl) (fun _ _ _ _ _ _ _ _ _ _ => et_yes) (fun x544 v547 v548 G545 W546 eG541 eW542 eX543 h549 h550 => (e_pair (e_var (R := rS) (x := x544.1) rfl h549) (e_var (R := rI) (x := x544.2) rfl h550)))))) ea_nil)) (by first | (simp only [be1, bs1, ba1] at hx554 ⊢; exact hx554) | exact hx554) (scl_ok (T.mo 0 rfl)) (slot_ok (T.mo 2 rfl)) (by decide) (by simp) ?_
      intro H555 G556 w557 e558
      have h559 := Rep.mono _ e558 h540
      have w557 : Wo G H [l, ld] G556 H555 [(p476, cL rS s486), (l, cSl l (He.ga K "Record") ld [(1, pd rS f534), (0, pd (rT (rP rS rI)) f553)]), (ld, cXd)] := w557
      obtain ⟨f560, hx561, h⟩ := bindS h
      refine x_slN (j := 1) (j2 := 2) w557 rfl rfl rfl (e_var (R := rI) (x := result0) rfl rfl) hx561 (scl_ok (T.mo 0 rfl)) (slot_ok (T.mo 3 rfl)) (by decide) (by simp) ?_
      intro H562 G563 w564 e565
      have h566 := Rep.mono _ e565 h559
      have w564 : Wo G H [l, ld] G563 H562 [(p476, cL rS s486), (l, cSl l (He.ga K "Record") ld [(1, pd rS f534), (0, pd (rT (rP rS rI)) f553), (2, pd rI f560)]), (ld, cXd)] := w564
      refine x_next ?_
      have h : (Sum.inr (m_Record.mk f534 f553 f560) : Xn ⊕ m_Record) = r := Option.some.inj h
      subst h
      exact k _ rfl _ _ w564.f (w564.sub2 (i := 1) (j := 2) rfl rfl (by decide))
def m_Record___init___T_b1 (x592 : (Str × Int)) (s581 : (List Str)) : Option (List Str) :=
  (some (s581.any fun z => z == x592.1) >>= fun b604 => bif b604 then none else (some x592.1 >>= fun a610 => appM s581 a610 >>= fun names_611 => some (names_611)))
def m_Record___init___T (name0 : Str) (asks0 : (List (Str × Int))) (result0 : Int) : Option m_Record :=
  (some ([]) >>= fun names_567 => (some asks0 >>= fun xs576 => forS (m_Record___init___T_b1) xs576 names_567 >>= fun s581 => (some name0 >>= fun f627 => (((some asks0 >>= fun xs646 => lcS (fun x637 => some true) (fun x637 => some (x637.1, x637.2)) xs646) >>= fun t647 => some t647) >>= fun f648 => (some result0 >>= fun f655 => some (m_Record.mk f627 f648 f655))))))
theorem sc_Record___init___T : FnScope ["self", "name", "asks", "result", "names", "asked", "answer"] ["self", "name", "asks", "result"] (defScope s_Record___init__) := ⟨rfl, rfl, rfl, by decide +kernel, rfl, by decide +kernel, by decide +kernel⟩
theorem ok_Record___init___T (T : Tx K mg) : Fm P w K mg base CX0 1 "Record" "__init__" ["self", "name", "asks", "result"] (PIs (He.ga K "Record") (aC rS (aC (rT (rP rS rI)) (aC rI aN))) (fl_Record K) (fun i => m_Record___init___T i.1 i.2.1 i.2.2.1)) := by
  obtain ⟨fd, F⟩ := T.def_ 0 rfl
  have nd := sc_Record___init___T.nd
  refine fm_mk F (fun _ _ _ _ _ _ us hl => match us, hl with | [_, _, _, _], _ => rfl) (F.ok sc_Record___init___T (fun vs H Q E h => ?_) (fun cdv A outer s H vs Q E hr h => ?_))
  · obtain ⟨G, l, ld, _, ⟨name0, asks0, result0, ⟨⟩⟩, r, rfl, wd, ⟨vname0, _, rfl, hname0, vasks0, _, rfl, hasks0, vresult0, _, rfl, hresult0, rfl⟩, h, k⟩ := h
    rfl
  · obtain ⟨G, l, ld, _, ⟨name0, asks0, result0, ⟨⟩⟩, r, rfl, wd, ⟨vname0, _, rfl, hname0, vasks0, _, rfl, hasks0, vresult0, _, rfl, hresult0, rfl⟩, h, k⟩ := h
    cases hname0
    cases hresult0
    have w0 : Wo G H [l, ld] G H _ := Wo.startC wd
    have h : m_Record___init___T name0 asks0 result0 = some r := h
    unfold m_Record___init___T at h
    refine ⟨_, PSs.nox (pss_cons (ps_set (i := 4) nd rfl (Or.inl rfl) (pe_lst pa_nil)) (pss_cons (ps_for PassesOwn.never rfl (pi_tup (pv 2)) (pg_tup (by rfl) (pgs_cons (pg_name (i := 5) nd rfl (by first | exact Or.inl rfl | exact Or.inr rfl)) (pgs_cons (pg_name (i := 6) nd rfl (by first | exact Or.inl rfl | exact Or.inr rfl)) pgs_nil))) (pss_cons (ps_if (pt_cmpR (r := rIn K false) op_in_seq (pv 5) (pv 4) (by rfl)) (pss_cons ps_never pss_nil) pss_nil) (pss_cons (ps_expr (pe_bm PySem.F.plainAttrs_list PySem.F.slot_list_append PySem.F.type_list_append mt_append (pv 4) (pa_cons (pv 5) pa_nil))) pss_nil))) (pss_cons (SlX.ps_sl (pv 0) (pv 1) (by rfl)) (pss_cons (SlX.ps_sl (pv 0) (pe_callTy (r := rTp K) call_tuple_of (by rfl) (fr_tuple T) (by decide +kernel) (pa_cons (pe_lc (own := [("asked", 5), ("answer", 6)]) (by rfl) nd (show L2.PI _ _ _ (iTup K _) from pi_tup (pv 2)) (blkOk_by (by kernel_rfl)) (fun _ _ _ _ _ => show L2.PG _ _ (gTup K 2 (gCons (gName 5) (gCons (gName 6) gNil))) from pg_tup (by rfl) (pgs_cons (pg_name (i := 5) nd rfl (by first | exact Or.inl rfl | exact Or.inr rfl)) (pgs_cons (pg_name (i := 6) nd rfl (by first | exact Or.inl rfl | exact Or.inr rfl)) pgs_nil))) (fun _ _ _ _ _ => pts_nil) (fun _ _ _ _ _ => (pe_tup (pa_cons (pv 5) (pa_cons (pv 6) pa_nil))))) pa_nil)) (by rfl)) (pss_cons (SlX.ps_sl (pv 0) (pv 3) (by rfl)) pss_nil))))), ?_⟩
    obtain ⟨names_567, hx568, h⟩ := bindS h
    refine x_setL w0 (el_disp (R := rS) eal_nil) hx568 ?_
    intro p571 H569 G572 n573 w570 e574
    have h575 := Rep.mono _ e574 hasks0
    obtain ⟨xs576, hx577, h⟩ := bindS h
    obtain ⟨t579, hx580, h⟩ := bindS h
    refine x_forT w570 (e_var (R := (rT (rP rS rI))) (x := asks0) rfl h575) hx577 (fun i G' H' σ' => ∃ s581 : (List Str), ∃ u582 : Option V, ∃ u583 : Option V, Wo G H [l, ld] G' H' [(p571, cL rS s581), (l, cN (He.ga K "Record") ld), (ld, cOw l)] ∧ Evl.Ex G572 G' ∧ σ' = [some (V.ref l), some (V.str name0), some vasks0, some (V.int result0), some (V.ref p571), u583, u582] ∧ forS (m_Record___init___T_b1) (xs576.drop i) s581 = some t579) (fun _ _ _ _ ⟨_, _, _, w, _⟩ => w.ex) ?_ ?_ ?_
    · intro G' H' w' e'
      exact ⟨names_567, (none), (none), w', e', rfl, hx580⟩
    · rintro G594 e595 i591 x592 v596 σ' G587 H590 hx593 e598 ⟨s581, u582, u583, w588, e589, rfl, hm585⟩ r597
      obtain ⟨q586, hb584, hm585⟩ := forS_at hx593 hm585
      have h599 := Rep.mono _ e589 h575
      refine g_pair (i := 5) (j := 6) r597 w588.ex ?_
      intro v600 v601 r602 r603
      cases r602
      cases r603
      unfold m_Record___init___T_b1 at hb584
      obtain ⟨b604, hx605, hb584⟩ := bindS hb584
      refine x_if w588 (et_T (e_op (rr_inL flS) (e_var (R := rS) (x := x592.1) rfl rfl) (e_var (R := (rL rS)) (x := s581) rfl (w588.rlAt (i := 0) rfl)))) hx605 ?_ ?_
      · intro hbb604 H606 w607
        subst hbb604
        have hb584 := bifT hb584
        cases (show none = some _ from hb584)
      · intro hbb604 H608 w609
        subst hbb604
        have hb584 := bifF hb584
        refine x_next ?_
        obtain ⟨a610, hx612, hb584⟩ := bindS hb584
        obtain ⟨names_611, hx613, hb584⟩ := bindS hb584
        obtain ⟨hs614, rfl⟩ := appM_ok hx613
        refine x_app (j := 0) w609 rfl hs614 rfl (e_var (R := rS) (x := x592.1) rfl rfl) hx612 ?_
        intro H615 G616 w617 e618
        have h619 := Rep.mono _ e618 h599
        have w617 : Wo G H [l, ld] G616 H615 [(p571, cL rS (s581 ++ [a610])), (l, cN (He.ga K "Record") ld), (ld, cOw l)] := w617
        refine x_next ?_
        have hb584 : (s581 ++ [a610]) = q586 := Option.some.inj hb584
        subst hb584
        exact ⟨G616, (e598.trans e618), (s581 ++ [a610]), (some (V.int x592.2)), (some (V.str x592.1)), w617, (e589.trans e618), rfl, hm585⟩
    · rintro σ' G620 H623 e624 ⟨s581, u582, u583, w621, e622, rfl, hm585⟩
      have hm585 := forS_end hm585
      subst hm585
      have h626 := Rep.mono _ e622 h575
      obtain ⟨f627, hx628, h⟩ := bindS h
      refine x_sl1 (j := 1) (j2 := 2) w621 rfl rfl rfl (e_var (R := rS) (x := name0) rfl rfl) hx628 (scl_ok (T.mo 0 rfl)) (slot_ok (T.mo 1 rfl)) (by decide) ?_
      intro H629 G630 w631 e632
      have h633 := Rep.mono _ e632 h626
      have w631 : Wo G H [l, ld] G630 H629 [(p571, cL rS s581), (l, cSl l (He.ga K "Record") ld [(1, pd rS f627)]), (ld, cXd)] := w631
      obtain ⟨f648, hx649, h⟩ := bindS h
      refine x_slN (j := 1) (j2 := 2) w631 rfl rfl rfl (e_cb rc_tupleL (ea_cons (EL.e (el_lc1 (src_tup (e_var (R := (rT (rP rS rI))) (x := asks0) rfl h633)) (tg_pair (K := K) (R := rS) (S := rI) (i := 5) (j := 6)) (by rintro _ _ _ ⟨_, _, _, _, rfl⟩; rfl) (fun x637 s643 G644 W645 eG634 eW635 eX636 ⟨v638, v639, h640, h641, q642⟩ => by subst q642; cases h640; cases h641; exact et_yes) (fun x637 s643 G644 W645 eG634 eW635 eX636 ⟨v638, v639, h640, h641, q642⟩ => by subst q642; cases h640; cases h641; exact (e_pair (e_var (R := rS) (x := x637.1) rfl rfl) (e_var (R := rI) (x := x637.2) rfl rfl))))) ea_nil)) (by first | (simp only [be1, bs1, ba1] at hx649 ⊢; exact hx649) | exact hx649) (scl_ok (T.mo 0 rfl)) (slot_ok (T.mo 2 rfl)) (by decide) (by simp) ?_
      intro H650 G651 w652 e653
      have h654 := Rep.mono _ e653 h633
      have w652 : Wo G H [l, ld] G651 H650 [(p571, cL rS s581), (l, cSl l (He.ga K "Record") ld [(1, pd rS f627), (0, pd (rT (rP rS rI)) f648)]), (ld, cXd)] := w652
      obtain ⟨f655, hx656, h⟩ := bindS h
      refine x_slN (j := 1) (j2 := 2) w652 rfl rfl rfl (e_var (R := rI) (x := result0) rfl rfl) hx656 (scl_ok (T.mo 0 rfl)) (slot_ok (T.mo 3 rfl)) (by decide) (by simp) ?_
      intro H657 G658 w659 e660
      have h661 := Rep.mono _ e660 h654
      have w659 : Wo G H [l, ld] G658 H657 [(p571, cL rS s581), (l, cSl l (He.ga K "Record") ld [(1, pd rS f627), (0, pd (rT (rP rS rI)) f648), (2, pd rI f655)]), (ld, cXd)] := w659
      refine x_next ?_
      have h : (m_Record.mk f627 f648 f655) = r := Option.some.inj h
      subst h
      exact k _ _ w659.f (w659.sub2 (i := 1) (j := 2) rfl rfl (by decide))
def m_Record___init___C_b1 (x686 : (Str × Int)) (s675 : (List Str)) : Option (List Str) :=
  (some (s675.any fun z => z == x686.1) >>= fun b694 => bif b694 then none else (some x686.1 >>= fun a700 => appM s675 a700 >>= fun names_701 => some (names_701)))
def m_Record___init___C (name0 : Str) (asks0 : (List (Str × Int))) (result0 : Int) : Option m_Record :=
  (some ([]) >>= fun names_662 => ( forS (m_Record___init___C_b1) asks0 names_662 >>= fun s675 => (some name0 >>= fun f714 => (((some asks0 >>= fun xs732 => lcS (fun x723 => some true) (fun x723 => some (x723.1, x723.2)) xs732) >>= fun t733 => some t733) >>= fun f734 => (some result0 >>= fun f740 => some (m_Record.mk f714 f734 f740))))))
theorem sc_Record___init___C : FnScope ["self", "name", "asks", "result", "names", "asked", "answer"] ["self", "name", "asks", "result"] (defScope s_Record___init__) := ⟨rfl, rfl, rfl, by decide +kernel, rfl, by decide +kernel, by decide +kernel⟩
theorem ok_Record___init___C (T : Tx K mg) : Fm P w K mg base CX0 1 "Record" "__init__" ["self", "name", "asks", "result"] (PIBs (He.ga K "Record") (aC rS (aC rA (aC rI aN))) (fun i => i.2.1) (rP rS rI) (fl_Record K) (fun ys i => m_Record___init___C i.1 ys i.2.2.1)) := by
  obtain ⟨fd, F⟩ := T.def_ 0 rfl
  have nd := sc_Record___init___C.nd
  refine fm_mk F (fun _ _ _ _ _ _ us hl => match us, hl with | [_, _, _, _], _ => rfl) (F.ok sc_Record___init___C (fun vs H Q E h => ?_) (fun cdv A outer s H vs Q E hr h => ?_))
  · obtain ⟨G, l, ld, _, ⟨name0, lb, result0, ⟨⟩⟩, asks0, r, rfl, wd, ⟨vname0, _, rfl, hname0, vasks0, _, rfl, hasks0, vresult0, _, rfl, hresult0, rfl⟩, L0, h, k⟩ := h
    rfl
  · obtain ⟨G, l, ld, _, ⟨name0, lb, result0, ⟨⟩⟩, asks0, r, rfl, wd, ⟨vname0, _, rfl, hname0, vasks0, _, rfl, hasks0, vresult0, _, rfl, hresult0, rfl⟩, L0, h, k⟩ := h
    cases hname0
    cases hasks0
    cases hresult0
    have w0 : Wo G H [l, ld] G H _ := Wo.startC wd
    have hl : lb ∉ [l, ld] := L0.neS wd
    have h : m_Record___init___C name0 asks0 result0 = some r := h
    unfold m_Record___init___C at h
    refine ⟨_, PSs.nox (pss_cons (ps_set (i := 4) nd rfl (Or.inl rfl) (pe_lst pa_nil)) (pss_cons (ps_for PassesOwn.never rfl (show L2.PI _ _ _ (iList K _) from pi_list (pv 2)) (pg_tup (by rfl) (pgs_cons (pg_name (i := 5) nd rfl (by first | exact Or.inl rfl | exact Or.inr rfl)) (pgs_cons (pg_name (i := 6) nd rfl (by first | exact Or.inl rfl | exact Or.inr rfl)) pgs_nil))) (pss_cons (ps_if (pt_cmpR (r := rIn K false) op_in_seq (pv 5) (pv 4) (by rfl)) (pss_cons ps_never pss_nil) pss_nil) (pss_cons (ps_expr (pe_bm PySem.F.plainAttrs_list PySem.F.slot_list_append PySem.F.type_list_append mt_append (pv 4) (pa_cons (pv 5) pa_nil))) pss_nil))) (pss_cons (SlX.ps_sl (pv 0) (pv 1) (by rfl)) (pss_cons (SlX.ps_sl (pv 0) (pe_callTy (r := rTp K) call_tuple_of (by rfl) (fr_tuple T) (by decide +kernel) (pa_cons (pe_lc (own := [("asked", 5), ("answer", 6)]) (by rfl) nd (show L2.PI _ _ _ (iList K _) from pi_list (pv 2)) (blkOk_by (by kernel_rfl)) (fun _ _ _ _ _ => show L2.PG _ _ (gTup K 2 (gCons (gName 5) (gCons (gName 6) gNil))) from pg_tup (by rfl) (pgs_cons (pg_name (i := 5) nd rfl (by first | exact Or.inl rfl | exact Or.inr rfl)) (pgs_cons (pg_name (i := 6) nd rfl (by first | exact Or.inl rfl | exact Or.inr rfl)) pgs_nil))) (fun _ _ _ _ _ => pts_nil) (fun _ _ _ _ _ => (pe_tup (pa_cons (pv 5) (pa_cons (pv 6) pa_nil))))) pa_nil)) (by rfl)) (pss_cons (SlX.ps_sl (pv 0) (pv 3) (by rfl)) pss_nil))))), ?_⟩
    obtain ⟨names_662, hx663, h⟩ := bindS h
    refine x_setL w0 (el_disp (R := rS) eal_nil) hx663 ?_
    intro p666 H664 G667 n668 w665 e669
    obtain ⟨t673, hx674, h⟩ := bindS h
    refine x_forN w665 L0 hl rfl (fun i G' H' σ' => ∃ s675 : (List Str), ∃ u676 : Option V, ∃ u677 : Option V, Wo G H [l, ld] G' H' [(p666, cL rS s675), (l, cN (He.ga K "Record") ld), (ld, cOw l)] ∧ Evl.Ex G667 G' ∧ σ' = [some (V.ref l), some (V.str name0), some (V.ref lb), some (V.int result0), some (V.ref p666), u677, u676] ∧ forS (m_Record___init___C_b1) (asks0.drop i) s675 = some t673) (fun _ _ _ _ ⟨_, _, _, w, _⟩ => ⟨_, w⟩) ?_ ?_ ?_
    · exact ⟨names_662, (none), (none), w665, (Evl.Ex.refl _), rfl, hx674⟩
    · rintro i685 x686 v688 σ' G681 H684 hx687 ⟨s675, u676, u677, w682, e683, rfl, hm679⟩ r689
      obtain ⟨q680, hb678, hm679⟩ := forS_at hx687 hm679
      refine g_pair (i := 5) (j := 6) r689 w682.ex ?_
      intro v690 v691 r692 r693
      cases r692
      cases r693
      unfold m_Record___init___C_b1 at hb678
      obtain ⟨b694, hx695, hb678⟩ := bindS hb678
      refine x_if w682 (et_T (e_op (rr_inL flS) (e_var (R := rS) (x := x686.1) rfl rfl) (e_var (R := (rL rS)) (x := s675) rfl (w682.rlAt (i := 0) rfl)))) hx695 ?_ ?_
      · intro hbb694 H696 w697
        subst hbb694
        have hb678 := bifT hb678
        cases (show none = some _ from hb678)
      · intro hbb694 H698 w699
        subst hbb694
        have hb678 := bifF hb678
        refine x_next ?_
        obtain ⟨a700, hx702, hb678⟩ := bindS hb678
        obtain ⟨names_701, hx703, hb678⟩ := bindS hb678
        obtain ⟨hs704, rfl⟩ := appM_ok hx703
        refine x_app (j := 0) w699 rfl hs704 rfl (e_var (R := rS) (x := x686.1) rfl rfl) hx702 ?_
        intro H705 G706 w707 e708
        have w707 : Wo G H [l, ld] G706 H705 [(p666, cL rS (s675 ++ [a700])), (l, cN (He.ga K "Record") ld), (ld, cOw l)] := w707
        refine x_next ?_
        have hb678 : (s675 ++ [a700]) = q680 := Option.some.inj hb678
        subst hb678
        exact ⟨G706, (s675 ++ [a700]), (some (V.int x686.2)), (some (V.str x686.1)), w707, (e683.trans e708), rfl, hm679⟩
    · rintro σ' G709 H712 ⟨s675, u676, u677, w710, e711, rfl, hm679⟩
      have hm679 := forS_end hm679
      subst hm679
      obtain ⟨f714, hx715, h⟩ := bindS h
      refine x_sl1 (j := 1) (j2 := 2) w710 rfl rfl rfl (e_var (R := rS) (x := name0) rfl rfl) hx715 (scl_ok (T.mo 0 rfl)) (slot_ok (T.mo 1 rfl)) (by decide) ?_
      intro H716 G717 w718 e719
      have w718 : Wo G H [l, ld] G717 H716 [(p666, cL rS s675), (l, cSl l (He.ga K "Record") ld [(1, pd rS f714)]), (ld, cXd)] := w718
      obtain ⟨f734, hx735, h⟩ := bindS h
      refine x_slN (j := 1) (j2 := 2) w718 rfl rfl rfl (e_cb rc_tupleL (ea_cons (EL.e (el_lc1L (src_lent (n := 2) (w718.lentOf L0 hl) rfl) (tg_pair (K := K) (R := rS) (S := rI) (i := 5) (j := 6)) (by rintro _ _ _ ⟨_, _, _, _, rfl⟩; rfl) (fun x723 s729 G730 W731 eG720 eW721 eX722 ⟨v724, v725, h726, h727, q728⟩ => by subst q728; cases h726; cases h727; exact et_yes) (fun x723 s729 G730 W731 eG720 eW721 eX722 ⟨v724, v725, h726, h727, q728⟩ => by subst q728; cases h726; cases h727; exact (e_pair (e_var (R := rS) (x := x723.1) rfl rfl) (e_var (R := rI) (x := x723.2) rfl rfl))))) ea_nil)) (by first | (simp only [be1, bs1, ba1] at hx735 ⊢; exact hx735) | exact hx735) (scl_ok (T.mo 0 rfl)) (slot_ok (T.mo 2 rfl)) (by decide) (by simp) ?_
      intro H736 G737 w738 e739
      have w738 : Wo G H [l, ld] G737 H736 [(p666, cL rS s675), (l, cSl l (He.ga K "Record") ld [(1, pd rS f714), (0, pd (rT (rP rS rI)) f734)]), (ld, cXd)] := w738
      obtain ⟨f740, hx741, h⟩ := bindS h
      refine x_slN (j := 1) (j2 := 2) w738 rfl rfl rfl (e_var (R := rI) (x := result0) rfl rfl) hx741 (scl_ok (T.mo 0 rfl)) (slot_ok (T.mo 3 rfl)) (by decide) (by simp) ?_
      intro H742 G743 w744 e745
      have w744 : Wo G H [l, ld] G743 H742 [(p666, cL rS s675), (l, cSl l (He.ga K "Record") ld [(1, pd rS f714), (0, pd (rT (rP rS rI)) f734), (2, pd rI f740)]), (ld, cXd)] := w744
      refine x_next ?_
      have h : (m_Record.mk f714 f734 f740) = r := Option.some.inj h
      subst h
      exact k _ _ w744.f (w744.sub2 (i := 1) (j := 2) rfl rfl (by decide))
def m_Record_asked (self0 : m_Record) : Option (List Str) :=
  ((some self0.asks >>= fun xs758 => lcS (fun x749 => some true) (fun x749 => some x749.1) xs758) >>= fun a759 => some a759)
theorem sc_Record_asked : FnScope ["self", "asked", "answer"] ["self"] (defScope s_Record_asked) := ⟨rfl, rfl, rfl, by decide +kernel, rfl, by decide +kernel, by decide +kernel⟩
theorem ok_Record_asked (T : Tx K mg) : Fm P w K mg base CX0 1 "Record" "asked" ["self"] (PL (aC (r_Record K) aN) rS (fun i => m_Record_asked i.1)) := by
  obtain ⟨fd, F⟩ := T.def_ 1 rfl
  have nd := sc_Record_asked.nd
  refine fm_mk F (fun _ _ _ _ _ _ us hl => match us, hl with | [_], _ => rfl) (F.ok sc_Record_asked (fun vs H Q E h => ?_) (fun cdv A outer s H vs Q E hr h => ?_))
  · obtain ⟨G, ⟨self0, ⟨⟩⟩, r, e0, ⟨vself0, _, rfl, hself0, rfl⟩, h, k⟩ := h
    rfl
  · obtain ⟨G, ⟨self0, ⟨⟩⟩, r, e0, ⟨vself0, _, rfl, hself0, rfl⟩, h, k⟩ := h
    have w0 := Wo.start e0
    have h : m_Record_asked self0 = some r := h
    unfold m_Record_asked at h
    refine ⟨_, PSs.nox (pss_cons (ps_ret (pe_lc (own := [("asked", 1), ("answer", 2)]) (by rfl) nd (show L2.PI _ _ _ (iTup K _) from pi_tup (SlX.pe_sl (pv 0) (by rfl))) (blkOk_by (by kernel_rfl)) (fun _ _ _ _ _ => show L2.PG _ _ (gTup K 2 (gCons (gName 1) (gCons (gName 2) gNil))) from pg_tup (by rfl) (pgs_cons (pg_name (i := 1) nd rfl (by first | exact Or.inl rfl | exact Or.inr rfl)) (pgs_cons (pg_name (i := 2) nd rfl (by first | exact Or.inl rfl | exact Or.inr rfl)) pgs_nil))) (fun _ _ _ _ _ => pts_nil) (fun _ _ _ _ _ => (pv 1)))) pss_nil), ?_⟩
    obtain ⟨a759, hx760, h⟩ := bindS h
    have h : a759 = r := Option.some.inj h
    subst h
    refine x_retL w0 (el_lc1 (src_tup (e_sl (fun (o : m_Record) => o.asks) (e_var (R := (r_Record K)) (x := self0) rfl hself0) (scl_ok (T.mo 0 rfl)) (slot_ok (T.mo 2 rfl)) (fun _ => (List.mem_cons_of_mem _ (List.mem_cons_self ..))))) (tg_pair (K := K) (R := rS) (S := rI) (i := 1) (j := 2)) (by rintro _ _ _ ⟨_, _, _, _, rfl⟩; rfl) (fun x749 s755 G756 W757 eG746 eW747 eX748 ⟨v750, v751, h752, h753, q754⟩ => by subst q754; cases h752; cases h753; exact et_yes) (fun x749 s755 G756 W757 eG746 eW747 eX748 ⟨v750, v751, h752, h753, q754⟩ => by subst q754; cases h752; cases h753; exact (e_var (R := rS) (x := x749.1) rfl rfl))) (by first | (simp only [be1, bs1, ba1] at hx760 ⊢; exact hx760) | exact hx760) (fun p9 H9 G9 n9 w9 e9 => ?_)
    exact k _ _ _ n9 w9.upE (w9.sub1 (i := 0) rfl)
def m_Record_answer_b1 (name0 : Str) (x777 : (Str × Int)) (s766 : Unit) : Option (Stp Unit (Option Int)) :=
  (some (decide (x777.1 = name0)) >>= fun b789 => bif b789 then (some (some x777.2) >>= fun a793 => some (Stp.rt a793)) else some (Stp.nx ()))
def m_Record_answer (self0 : m_Record) (name0 : Str) : Option (Option Int) :=
  (some self0.asks >>= fun xs761 => forL (m_Record_answer_b1 name0) xs761 () >>= Sum.elim (fun s766 => (some (none : (Option Int)) >>= fun a804 => some a804)) (fun r => some r))
theorem sc_Record_answer : FnScope ["self", "name", "asked", "answer"] ["self", "name"] (defScope s_Record_answer) := ⟨rfl, rfl, rfl, by decide +kernel, rfl, by decide +kernel, by decide +kernel⟩
theorem ok_Record_answer (T : Tx K mg) : Fm P w K mg base CX0 1 "Record" "answer" ["self", "name"] (PF (aC (r_Record K) (aC rS aN)) (rO rI) (fun i => m_Record_answer i.1 i.2.1)) := by
  obtain ⟨fd, F⟩ := T.def_ 2 rfl
  have nd := sc_Record_answer.nd
  refine fm_mk F (fun _ _ _ _ _ _ us hl => match us, hl with | [_, _], _ => rfl) (F.ok sc_Record_answer (fun vs H Q E h => ?_) (fun cdv A outer s H vs Q E hr h => ?_))
  · obtain ⟨G, ⟨self0, name0, ⟨⟩⟩, r, e0, ⟨vself0, _, rfl, hself0, vname0, _, rfl, hname0, rfl⟩, h, k⟩ := h
    rfl
  · obtain ⟨G, ⟨self0, name0, ⟨⟩⟩, r, e0, ⟨vself0, _, rfl, hself0, vname0, _, rfl, hname0, rfl⟩, h, k⟩ := h
    cases hname0
    have w0 := Wo.start e0
    have h : m_Record_answer self0 name0 = some r := h
    unfold m_Record_answer at h
    refine ⟨_, PSs.nox (pss_cons (ps_for PassesOwn.never rfl (pi_tup (SlX.pe_sl (pv 0) (by rfl))) (pg_tup (by rfl) (pgs_cons (pg_name (i := 2) nd rfl (by first | exact Or.inl rfl | exact Or.inr rfl)) (pgs_cons (pg_name (i := 3) nd rfl (by first | exact Or.inl rfl | exact Or.inr rfl)) pgs_nil))) (pss_cons (ps_if (pt_cmpR op_eq (pv 2) (pv 1) (nomark _)) (pss_cons (ps_ret (pv 3)) pss_nil) pss_nil) pss_nil)) (pss_cons (ps_ret pe_non) pss_nil)), ?_⟩
    obtain ⟨xs761, hx762, h⟩ := bindS h
    obtain ⟨t764, hx765, h⟩ := bindS h
    refine x_forT w0 (e_sl (fun (o : m_Record) => o.asks) (e_var (R := (r_Record K)) (x := self0) rfl hself0) (scl_ok (T.mo 0 rfl)) (slot_ok (T.mo 2 rfl)) (fun _ => (List.mem_cons_of_mem _ (List.mem_cons_self ..)))) hx762 (fun i G' H' σ' => ∃ s766 : Unit, ∃ u767 : Option V, ∃ u768 : Option V, Wo G H [] G' H' [] ∧ Evl.Ex G G' ∧ σ' = [some vself0, some (V.str name0), u768, u767] ∧ forL (m_Record_answer_b1 name0) (xs761.drop i) s766 = some t764) (fun _ _ _ _ ⟨_, _, _, w, _⟩ => w.ex) ?_ ?_ ?_
    · intro G' H' w' e'
      exact ⟨(), (none), (none), w', e', rfl, hx765⟩
    · rintro G779 e780 i776 x777 v781 σ' G772 H775 hx778 e783 ⟨s766, u767, u768, w773, e774, rfl, hm770⟩ r782
      obtain ⟨q771, hb769, hm770⟩ := forL_at hx778 hm770
      have h784 := Rep.mono _ e774 hself0
      refine g_pair (i := 2) (j := 3) r782 w773.ex ?_
      intro v785 v786 r787 r788
      cases r787
      cases r788
      unfold m_Record_answer_b1 at hb769
      obtain ⟨b789, hx790, hb769⟩ := bindS hb769
      refine x_if w773 (et_T (e_op rr_eqS (e_var (R := rS) (x := x777.1) rfl rfl) (e_var (R := rS) (x := name0) rfl rfl))) hx790 ?_ ?_
      · intro hbb789 H791 w792
        subst hbb789
        have hb769 := bifT hb769
        obtain ⟨a793, hx794, hb769⟩ := bindS hb769
        have hb769 : some (Stp.rt a793) = some q771 := hb769
        cases hb769
        have hm770 : some (Sum.inr a793) = some t764 := hm770
        cases hm770
        have h : a793 = r := Option.some.inj h
        subst h
        exact x_ret w792 (e_some (e_var (R := rI) (x := x777.2) rfl rfl)) hx794 (fun v9 H9 G9 w9 e9 r9 => k v9 H9 G9 w9.upE r9)
      · intro hbb789 H795 w796
        subst hbb789
        have hb769 := bifF hb769
        refine x_next ?_
        refine x_next ?_
        have hb769 : Stp.nx () = q771 := Option.some.inj hb769
        subst hb769
        exact ⟨G772, (e783.trans (Evl.Ex.refl _)), (), (some (V.int x777.2)), (some (V.str x777.1)), w796, e774, rfl, hm770⟩
    · rintro σ' G797 H800 e801 ⟨s766, u767, u768, w798, e799, rfl, hm770⟩
      have hm770 := forL_end hm770
      subst hm770
      have h := elimL h
      have h803 := Rep.mono _ e799 hself0
      obtain ⟨a804, hx805, h⟩ := bindS h
      have h : a804 = r := Option.some.inj h
      subst h
      exact x_ret w798 (e_none (R := rI)) hx805 (fun v9 H9 G9 w9 e9 r9 => k v9 H9 G9 w9.upE r9)
def m_Record_written (self0 : m_Record) : Option Str :=
  ((some self0.asks >>= fun xs818 => lcS (fun x809 => some true) (fun x809 => (fjS [some (" " : Str), szS x809.1, some ("=" : Str), strI x809.2] Str.empty)) xs818) >>= fun parts_819 => ((((fjS [szS self0.name, some (":" : Str)] Str.empty) >>= fun t828 => (joinS ("" : Str) parts_819 >>= fun t829 => addS t828 t829)) >>= fun t830 => ((fjS [some (" -> " : Str), strI self0.result] Str.empty) >>= fun t831 => addS t830 t831)) >>= fun a832 => some a832))
theorem sc_Record_written : FnScope ["self", "parts", "asked", "answer"] ["self"] (defScope s_Record_written) := ⟨rfl, rfl, rfl, by decide +kernel, rfl, by decide +kernel, by decide +kernel⟩
theorem ok_Record_written (T : Tx K mg) : Fm P w K mg base CX0 1 "Record" "written" ["self"] (PF (aC (r_Record K) aN) rS (fun i => m_Record_written i.1)) := by
  obtain ⟨fd, F⟩ := T.def_ 3 rfl
  have nd := sc_Record_written.nd
  refine fm_mk F (fun _ _ _ _ _ _ us hl => match us, hl with | [_], _ => rfl) (F.ok sc_Record_written (fun vs H Q E h => ?_) (fun cdv A outer s H vs Q E hr h => ?_))
  · obtain ⟨G, ⟨self0, ⟨⟩⟩, r, e0, ⟨vself0, _, rfl, hself0, rfl⟩, h, k⟩ := h
    rfl
  · obtain ⟨G, ⟨self0, ⟨⟩⟩, r, e0, ⟨vself0, _, rfl, hself0, rfl⟩, h, k⟩ := h
    have w0 := Wo.start e0
    have h : m_Record_written self0 = some r := h
    unfold m_Record_written at h
    refine ⟨_, PSs.nox (pss_cons (ps_setLc (i := 1) (own := [("asked", 2), ("answer", 3)]) (by rfl) nd rfl rfl (sw_true rfl rfl rfl (by decide +kernel)) (show L2.PI _ _ _ (iTup K _) from pi_tup (SlX.pe_sl (pv 0) (by rfl))) (blkOk_by (by kernel_rfl)) (fun _ _ _ _ _ => show L2.PG _ _ (gTup K 2 (gCons (gName 2) (gCons (gName 3) gNil))) from pg_tup (by rfl) (pgs_cons (pg_name (i := 2) nd rfl (by first | exact Or.inl rfl | exact Or.inr rfl)) (pgs_cons (pg_name (i := 3) nd rfl (by first | exact Or.inl rfl | exact Or.inr rfl)) pgs_nil))) (fun _ _ _ _ _ => pts_nil) (fun _ _ _ _ _ => (pe_joined (PJ.cons pe_str (PJ.cons (pe_fmt (pv 2)) (PJ.cons pe_str (PJ.cons (pe_fmt (pv 3)) PJ.nil))))))) (pss_cons (ps_ret (pe_op (r := rAddS) op_add_str (pe_op (r := rAddS) op_add_str (pe_joined (PJ.cons (pe_fmt (SlX.pe_sl (pv 0) (by rfl))) (PJ.cons pe_str PJ.nil))) (pe_join pe_str (pv 1))) (pe_joined (PJ.cons pe_str (PJ.cons (pe_fmt (SlX.pe_sl (pv 0) (by rfl))) PJ.nil))))) pss_nil)), ?_⟩
    obtain ⟨parts_819, hx820, h⟩ := bindS h
    refine x_set w0 (EL.e (el_lc1 (src_tup (e_sl (fun (o : m_Record) => o.asks) (e_var (R := (r_Record K)) (x := self0) rfl hself0) (scl_ok (T.mo 0 rfl)) (slot_ok (T.mo 2 rfl)) (fun _ => (List.mem_cons_of_mem _ (List.mem_cons_self ..))))) (tg_pair (K := K) (R := rS) (S := rI) (i := 2) (j := 3)) (by rintro _ _ _ ⟨_, _, _, _, rfl⟩; rfl) (fun x809 s815 G816 W817 eG806 eW807 eX808 ⟨v810, v811, h812, h813, q814⟩ => by subst q814; cases h812; cases h813; exact et_yes) (fun x809 s815 G816 W817 eG806 eW807 eX808 ⟨v810, v811, h812, h813, q814⟩ => by subst q814; cases h812; cases h813; exact (e_fj (ej_cons e_str (ej_cons (e_fmtS (e_var (R := rS) (x := x809.1) rfl rfl)) (ej_cons e_str (ej_cons (e_fmtI (e_var (R := rI) (x := x809.2) rfl rfl)) ej_nil)))))))) (by first | (simp only [be1, bs1, ba1] at hx820 ⊢; exact hx820) | exact hx820) ?_
    intro v823 H821 G824 w822 e825 h826
    have h827 := Rep.mono _ e825 hself0
    obtain ⟨a832, hx833, h⟩ := bindS h
    have h : a832 = r := Option.some.inj h
    subst h
    exact x_ret w822 (e_op rr_addS (e_op rr_addS (e_fj (ej_cons (e_fmtS (e_sl (fun (o : m_Record) => o.name) (e_var (R := (r_Record K)) (x := self0) rfl h827) (scl_ok (T.mo 0 rfl)) (slot_ok (T.mo 1 rfl)) (fun _ => (List.mem_cons_self ..)))) (ej_cons e_str ej_nil))) (e_sjoin (K := K) e_str (e_var (R := (rL rS)) (x := parts_819) rfl h826))) (e_fj (ej_cons e_str (ej_cons (e_fmtI (e_sl (fun (o : m_Record) => o.result) (e_var (R := (r_Record K)) (x := self0) rfl h827) (scl_ok (T.mo 0 rfl)) (slot_ok (T.mo 3 rfl)) (fun _ => (List.mem_cons_of_mem _ (List.mem_cons_of_mem _ (List.mem_cons_self ..)))))) ej_nil)))) (by first | (simp only [be1, bs1, ba1] at hx833 ⊢; exact hx833) | exact hx833) (fun v9 H9 G9 w9 e9 r9 => k v9 H9 G9 w9.upE r9)
def m_Record___eq__ (self0 : m_Record) (other0 : m_Record) : Option Bool :=
  (some (!true) >>= fun b834 => bif b834 then none else (some ((decide (self0.name = other0.name)) && ((decide (self0.asks = other0.asks)) && (self0.result == other0.result))) >>= fun a840 => some a840))
theorem sc_Record___eq__ : FnScope ["self", "other"] ["self", "other"] (defScope s_Record___eq__) := ⟨rfl, rfl, rfl, by decide +kernel, rfl, by decide +kernel, by decide +kernel⟩
theorem ok_Record___eq__ (T : Tx K mg) : Fm P w K mg base CX0 1 "Record" "__eq__" ["self", "other"] (PF (aC (r_Record K) (aC (r_Record K) aN)) rB (fun i => m_Record___eq__ i.1 i.2.1)) := by
  obtain ⟨fd, F⟩ := T.def_ 4 rfl
  have nd := sc_Record___eq__.nd
  refine fm_mk F (fun _ _ _ _ _ _ us hl => match us, hl with | [_, _], _ => rfl) (F.ok sc_Record___eq__ (fun vs H Q E h => ?_) (fun cdv A outer s H vs Q E hr h => ?_))
  · obtain ⟨G, ⟨self0, other0, ⟨⟩⟩, r, e0, ⟨vself0, _, rfl, hself0, vother0, _, rfl, hother0, rfl⟩, h, k⟩ := h
    rfl
  · obtain ⟨G, ⟨self0, other0, ⟨⟩⟩, r, e0, ⟨vself0, _, rfl, hself0, vother0, _, rfl, hother0, rfl⟩, h, k⟩ := h
    have w0 := Wo.start e0
    have h : m_Record___eq__ self0 other0 = some r := h
    unfold m_Record___eq__ at h
    refine ⟨_, PSs.nox (pss_cons (ps_if (pt_not (pt_val (pe_callB (SlX.call_isiSl (.ref (He.ga K "Record"))) (by rfl) (fr_isinstance T) (by decide +kernel) (pa_cons (pv 1) (pa_cons (pe_glob (v := .ref (He.ga K "Record")) (by rfl) (T.glo 5 rfl) rfl) pa_nil))))) pss_no pss_nil) (pss_cons (ps_ret (pe_and (pe_cmpR op_eq (SlX.pe_sl (pv 0) (by rfl)) (SlX.pe_sl (pv 1) (by rfl)) (nomark _)) (pe_and (pe_cmpR (r := rEqP K) (op_eqP hr.units) (SlX.pe_sl (pv 0) (by rfl)) (SlX.pe_sl (pv 1) (by rfl)) (nomark _)) (pe_one (pe_cmpR op_eq (SlX.pe_sl (pv 0) (by rfl)) (SlX.pe_sl (pv 1) (by rfl)) (nomark _)))))) pss_nil)), ?_⟩
    obtain ⟨b834, hx835, h⟩ := bindS h
    refine x_if w0 (et_not (et_B (e_isiS (b := true) (e_var (R := (r_Record K)) (x := other0) rfl (Rep.mono _ w0.ex hother0)) (scl_ok (T.mo 0 rfl)) (sisi_ok (T.mo 5 rfl)) (ki_ok (T.mo 4 rfl))))) hx835 ?_ ?_
    · intro hbb834 H836 w837
      subst hbb834
      exact absurd hx835 (by decide)
    · intro hbb834 H838 w839
      subst hbb834
      have h := bifF h
      refine x_next ?_
      obtain ⟨a840, hx841, h⟩ := bindS h
      have h : a840 = r := Option.some.inj h
      subst h
      exact x_ret w839 (e_andP (e_op rr_eqS (e_sl (fun (o : m_Record) => o.name) (e_var (R := (r_Record K)) (x := self0) rfl hself0) (scl_ok (T.mo 0 rfl)) (slot_ok (T.mo 1 rfl)) (fun _ => (List.mem_cons_self ..))) (e_sl (fun (o : m_Record) => o.name) (e_var (R := (r_Record K)) (x := other0) rfl hother0) (scl_ok (T.mo 0 rfl)) (slot_ok (T.mo 1 rfl)) (fun _ => (List.mem_cons_self ..)))) (e_andP (e_op (rr_eqD (dtT (dtP dtS dtI)) (by decide)) (e_sl (fun (o : m_Record) => o.asks) (e_var (R := (r_Record K)) (x := self0) rfl hself0) (scl_ok (T.mo 0 rfl)) (slot_ok (T.mo 2 rfl)) (fun _ => (List.mem_cons_of_mem _ (List.mem_cons_self ..)))) (e_sl (fun (o : m_Record) => o.asks) (e_var (R := (r_Record K)) (x := other0) rfl hother0) (scl_ok (T.mo 0 rfl)) (slot_ok (T.mo 2 rfl)) (fun _ => (List.mem_cons_of_mem _ (List.mem_cons_self ..))))) (e_op rr_eqI (e_sl (fun (o : m_Record) => o.result) (e_var (R := (r_Record K)) (x := self0) rfl hself0) (scl_ok (T.mo 0 rfl)) (slot_ok (T.mo 3 rfl)) (fun _ => (List.mem_cons_of_mem _ (List.mem_cons_of_mem _ (List.mem_cons_self ..))))) (e_sl (fun (o : m_Record) => o.result) (e_var (R := (r_Record K)) (x := other0) rfl hother0) (scl_ok (T.mo 0 rfl)) (slot_ok (T.mo 3 rfl)) (fun _ => (List.mem_cons_of_mem _ (List.mem_cons_of_mem _ (List.mem_cons_self ..)))))))) hx841 (fun v9 H9 G9 w9 e9 r9 => k v9 H9 G9 w9.upE r9)
def m_Record___eq___S (self0 : m_Record) (other0 : Str) : Option Bool :=
  (some (!false) >>= fun b842 => bif b842 then (some false >>= fun a846 => some a846) else none)
theorem sc_Record___eq___S : FnScope ["self", "other"] ["self", "other"] (defScope s_Record___eq__) := ⟨rfl, rfl, rfl, by decide +kernel, rfl, by decide +kernel, by decide +kernel⟩
theorem ok_Record___eq___S (T : Tx K mg) : Fm P w K mg base CX0 1 "Record" "__eq__" ["self", "other"] (PF (aC (r_Record K) (aC rS aN)) rB (fun i => m_Record___eq___S i.1 i.2.1)) := by
  obtain ⟨fd, F⟩ := T.def_ 4 rfl
  have nd := sc_Record___eq___S.nd
  refine fm_mk F (fun _ _ _ _ _ _ us hl => match us, hl with | [_, _], _ => rfl) (F.ok sc_Record___eq___S (fun vs H Q E h => ?_) (fun cdv A outer s H vs Q E hr h => ?_))
  · obtain ⟨G, ⟨self0, other0, ⟨⟩⟩, r, e0, ⟨vself0, _, rfl, hself0, vother0, _, rfl, hother0, rfl⟩, h, k⟩ := h
    rfl
  · obtain ⟨G, ⟨self0, other0, ⟨⟩⟩, r, e0, ⟨vself0, _, rfl, hself0, vother0, _, rfl, hother0, rfl⟩, h, k⟩ := h
    cases hother0
    have w0 := Wo.start e0
    have h : m_Record___eq___S self0 other0 = some r := h
    unfold m_Record___eq___S at h
    refine ⟨_, PSs.nox (pss_cons (ps_if (pt_not (pt_val (pe_callB (r := rIsi K) call_isi (by rfl) (fr_isinstance T) (by decide +kernel) (pa_cons (pv 1) (pa_cons (pe_glob (v := .ref (He.ga K "Record")) (by rfl) (T.glo 5 rfl) rfl) pa_nil))))) (pss_cons (ps_ret pe_bl) pss_nil) pss_nil) pss_no), ?_⟩
    obtain ⟨b842, hx843, h⟩ := bindS h
    refine x_if w0 (et_not (et_B (e_isiN (b := false) (e_var (R := rS) (x := other0) rfl rfl) ktS (kitN_ok (T.mo 6 rfl))))) hx843 ?_ ?_
    · intro hbb842 H844 w845
      subst hbb842
      have h := bifT h
      obtain ⟨a846, hx847, h⟩ := bindS h
      have h : a846 = r := Option.some.inj h
      subst h
      exact x_ret w845 e_bl hx847 (fun v9 H9 G9 w9 e9 r9 => k v9 H9 G9 w9.upE r9)
    · intro hbb842 H848 w849
      subst hbb842
      exact absurd hx843 (by decide)
def m_Record___eq___T (self0 : m_Record) (other0 : (List PyData)) : Option Bool :=
  (some (!false) >>= fun b850 => bif b850 then (some false >>= fun a854 => some a854) else none)
theorem sc_Record___eq___T : FnScope ["self", "other"] ["self", "other"] (defScope s_Record___eq__) := ⟨rfl, rfl, rfl, by decide +kernel, rfl, by decide +kernel, by decide +kernel⟩
theorem ok_Record___eq___T (T : Tx K mg) : Fm P w K mg base CX0 1 "Record" "__eq__" ["self", "other"] (PF (aC (r_Record K) (aC (rT (rD K)) aN)) rB (fun i => m_Record___eq___T i.1 i.2.1)) := by
  obtain ⟨fd, F⟩ := T.def_ 4 rfl
  have nd := sc_Record___eq___T.nd
  refine fm_mk F (fun _ _ _ _ _ _ us hl => match us, hl with | [_, _], _ => rfl) (F.ok sc_Record___eq___T (fun vs H Q E h => ?_) (fun cdv A outer s H vs Q E hr h => ?_))
  · obtain ⟨G, ⟨self0, other0, ⟨⟩⟩, r, e0, ⟨vself0, _, rfl, hself0, vother0, _, rfl, hother0, rfl⟩, h, k⟩ := h
    rfl
  · obtain ⟨G, ⟨self0, other0, ⟨⟩⟩, r, e0, ⟨vself0, _, rfl, hself0, vother0, _, rfl, hother0, rfl⟩, h, k⟩ := h
    have w0 := Wo.start e0
    have h : m_Record___eq___T self0 other0 = some r := h
    unfold m_Record___eq___T at h
    refine ⟨_, PSs.nox (pss_cons (ps_if (pt_not (pt_val (pe_callB (r := rIsi K) call_isi (by rfl) (fr_isinstance T) (by decide +kernel) (pa_cons (pv 1) (pa_cons (pe_glob (v := .ref (He.ga K "Record")) (by rfl) (T.glo 5 rfl) rfl) pa_nil))))) (pss_cons (ps_ret pe_bl) pss_nil) pss_nil) pss_no), ?_⟩
    obtain ⟨b850, hx851, h⟩ := bindS h
    refine x_if w0 (et_not (et_B (e_isiN (b := false) (e_var (R := (rT (rD K))) (x := other0) rfl (Rep.mono _ w0.ex hother0)) ktT (kitN_ok (T.mo 7 rfl))))) hx851 ?_ ?_
    · intro hbb850 H852 w853
      subst hbb850
      have h := bifT h
      obtain ⟨a854, hx855, h⟩ := bindS h
      have h : a854 = r := Option.some.inj h
      subst h
      exact x_ret w853 e_bl hx855 (fun v9 H9 G9 w9 e9 r9 => k v9 H9 G9 w9.upE r9)
    · intro hbb850 H856 w857
      subst hbb850
      exact absurd hx851 (by decide)
def m_Record___eq___I (self0 : m_Record) (other0 : Int) : Option Bool :=
  (some (!false) >>= fun b858 => bif b858 then (some false >>= fun a862 => some a862) else none)
theorem sc_Record___eq___I : FnScope ["self", "other"] ["self", "other"] (defScope s_Record___eq__) := ⟨rfl, rfl, rfl, by decide +kernel, rfl, by decide +kernel, by decide +kernel⟩
theorem ok_Record___eq___I (T : Tx K mg) : Fm P w K mg base CX0 1 "Record" "__eq__" ["self", "other"] (PF (aC (r_Record K) (aC rI aN)) rB (fun i => m_Record___eq___I i.1 i.2.1)) := by
  obtain ⟨fd, F⟩ := T.def_ 4 rfl
  have nd := sc_Record___eq___I.nd
  refine fm_mk F (fun _ _ _ _ _ _ us hl => match us, hl with | [_, _], _ => rfl) (F.ok sc_Record___eq___I (fun vs H Q E h => ?_) (fun cdv A outer s H vs Q E hr h => ?_))
  · obtain ⟨G, ⟨self0, other0, ⟨⟩⟩, r, e0, ⟨vself0, _, rfl, hself0, vother0, _, rfl, hother0, rfl⟩, h, k⟩ := h
    rfl
  · obtain ⟨G, ⟨self0, other0, ⟨⟩⟩, r, e0, ⟨vself0, _, rfl, hself0, vother0, _, rfl, hother0, rfl⟩, h, k⟩ := h
    cases hother0
    have w0 := Wo.start e0
    have h : m_Record___eq___I self0 other0 = some r := h
    unfold m_Record___eq___I at h
    refine ⟨_, PSs.nox (pss_cons (ps_if (pt_not (pt_val (pe_callB (r := rIsi K) call_isi (by rfl) (fr_isinstance T) (by decide +kernel) (pa_cons (pv 1) (pa_cons (pe_glob (v := .ref (He.ga K "Record")) (by rfl) (T.glo 5 rfl) rfl) pa_nil))))) (pss_cons (ps_ret pe_bl) pss_nil) pss_nil) pss_no), ?_⟩
    obtain ⟨b858, hx859, h⟩ := bindS h
    refine x_if w0 (et_not (et_B (e_isiN (b := false) (e_var (R := rI) (x := other0) rfl rfl) ktI (kitN_ok (T.mo 8 rfl))))) hx859 ?_ ?_
    · intro hbb858 H860 w861
      subst hbb858
      have h := bifT h
      obtain ⟨a862, hx863, h⟩ := bindS h
      have h : a862 = r := Option.some.inj h
      subst h
      exact x_ret w861 e_bl hx863 (fun v9 H9 G9 w9 e9 r9 => k v9 H9 G9 w9.upE r9)
    · intro hbb858 H864 w865
      subst hbb858
      exact absurd hx859 (by decide)
def m__law_int (value0 : Int) : Option Bool :=
  (some (true && (!false)) >>= fun a866 => some a866)
theorem sc__law_int : FnScope ["_law_value"] ["_law_value"] (defScope s__law_int) := ⟨rfl, rfl, rfl, by decide +kernel, rfl, by decide +kernel, by decide +kernel⟩
theorem ok__law_int (T : Tx K mg) : Fk P w K mg base CX0 1 "_law_int" ["_law_value"] (PF (aC rI aN) rB (fun i => m__law_int i.1)) := by
  obtain ⟨fd, F⟩ := T.def_ 7 rfl
  have nd := sc__law_int.nd
  refine fk_mk T.toTx (x := "_law_int") (T.glo 8 rfl) F (fun _ _ _ _ _ _ us hl => match us, hl with | [_], _ => rfl) (F.ok sc__law_int (fun vs H Q E h => ?_) (fun cdv A outer s H vs Q E hr h => ?_))
  · obtain ⟨G, ⟨value0, ⟨⟩⟩, r, e0, ⟨vvalue0, _, rfl, hvalue0, rfl⟩, h, k⟩ := h
    rfl
  · obtain ⟨G, ⟨value0, ⟨⟩⟩, r, e0, ⟨vvalue0, _, rfl, hvalue0, rfl⟩, h, k⟩ := h
    cases hvalue0
    have w0 := Wo.start e0
    have h : m__law_int value0 = some r := h
    unfold m__law_int at h
    refine ⟨_, PSs.nox (pss_cons (ps_ret (pe_and (pe_callB (r := rIsi K) call_isi (by rfl) (fr_isinstance T) (by decide +kernel) (pa_cons (pv 0) (pa_cons (pe_bltn (v := .ty "int") (by rfl) (fr_int T) (by decide +kernel) rfl) pa_nil))) (pe_one (pe_not (pe_callB (r := rIsi K) call_isi (by rfl) (fr_isinstance T) (by decide +kernel) (pa_cons (pv 0) (pa_cons (pe_bltn (v := .ty "bool") (by rfl) (fr_bool T) (by decide +kernel) rfl) pa_nil))))))) pss_nil), ?_⟩
    obtain ⟨a866, hx867, h⟩ := bindS h
    have h : a866 = r := Option.some.inj h
    subst h
    exact x_ret w0 (e_andP (e_isi (e_var (R := rI) (x := value0) rfl rfl) ktI (n := "int") (c := "int") (b := true) (by decide +kernel)) (e_notV (e_isi (e_var (R := rI) (x := value0) rfl rfl) ktI (n := "int") (c := "bool") (b := false) (by decide +kernel)))) hx867 (fun v9 H9 G9 w9 e9 r9 => k v9 H9 G9 w9.upE r9)
def m__law_any_value (pot_here0 : (List Int)) : Option (Int × (List Int)) :=
  (some (14 : Int) >>= fun x868 => (m__law_draw pot_here0 x868 >>= fun x873 => ((some (x873.1 == (13 : Int)) >>= fun b881 => bif b881 then (powM (10 : Int) (17 : Int) >>= fun value_894 => some value_894) else some x873.1) >>= fun s886 => (some s886 >>= fun a902 => some (a902, x873.2)))))
theorem sc__law_any_value : FnScope ["_law_pot_here", "_law_value"] ["_law_pot_here"] (defScope s__law_any_value) := ⟨rfl, rfl, rfl, by decide +kernel, rfl, by decide +kernel, by decide +kernel⟩
theorem ok__law_any_value (T : Tx K mg) : Fk P w K mg base CX0 2 "_law_any_value" ["_law_pot_here"] (P1 aN rI rI (fun ys i => m__law_any_value ys )) := by
  obtain ⟨fd__law_draw, G__law_draw, b__law_draw, k__law_draw, g__law_draw⟩ := ok__law_draw (w := w) (base := base) T
  obtain ⟨fd, F⟩ := T.def_ 9 rfl
  have nd := sc__law_any_value.nd
  refine fk_mk T.toTx (x := "_law_any_value") (T.glo 10 rfl) F (fun _ _ _ _ _ _ us hl => match us, hl with | [_], _ => rfl) (F.ok sc__law_any_value (fun vs H Q E h => ?_) (fun cdv A outer s H vs Q E hr h => ?_))
  · obtain ⟨G, ⟨l, ⟨⟩⟩, pot_here0, r, k', ⟨_, _, rfl, rfl, rfl⟩, wd, h, k⟩ := h
    rfl
  · obtain ⟨G, ⟨l, ⟨⟩⟩, pot_here0, r, k', ⟨_, _, rfl, rfl, rfl⟩, wd, h, k⟩ := h
    have w0 : Wo G H [l] G H _ := Wo.startC wd
    have h : m__law_any_value pot_here0 = some (r, k') := h
    unfold m__law_any_value at h
    refine ⟨_, PSs.nox (pss_cons (ps_set (i := 1) nd rfl (Or.inl rfl) (pe_call G__law_draw (hr.mono (by decide)) rfl g__law_draw k__law_draw b__law_draw .nil pass0 (pa_cons (pv 0) (pa_cons pe_int pa_nil)))) (Evl.pss_cut (ps_if (pt_cmpR op_eq (pv 1) pe_int (nomark _)) (pss_cons (ps_set (i := 1) nd rfl (Or.inl rfl) (pe_op op_pow pe_int pe_int)) pss_nil) pss_nil) (pss_cons (ps_ret (pv 1)) pss_nil))), ?_⟩
    refine x_setO ?_
    refine o_call ?_
    refine o_cons ?_
    refine o_var rfl ?_
    refine o_cons ?_
    obtain ⟨x868, hx869, h⟩ := bindS h
    refine c_i w0 e_int hx869 ?_
    intro H870 w871
    refine o_nil ?_
    obtain ⟨x873, hx874, h⟩ := bindS h
    refine c_p1 (i := 0) (j := (x868, ())) w871 rfl ⟨_, _, rfl, rfl, rfl⟩ hx874 ?_
    intro u875 H876 G877 w878 e879 r880
    cases r880
    have w878 : Wo G H [l] G877 H876 [(l, cL rI x873.2)] := w878
    obtain ⟨s886, hx887, h⟩ := bindS h
    refine o_cut (fun σ' H' => ∃ G' : Hp, Wo G H [l] G' H' [(l, cL rI x873.2)] ∧ Evl.Ex G877 G' ∧ σ' = [some (V.ref l), some (V.int s886)]) ?_ ?_
    · obtain ⟨b881, hx891, hx887⟩ := bindS hx887
      refine x_if w878 (et_T (e_op rr_eqI (e_var (R := rI) (x := x873.1) rfl rfl) e_int)) hx891 ?_ ?_
      · intro hbb881 H892 w893
        subst hbb881
        have hx887 := bifT hx887
        obtain ⟨value_894, hx895, hx887⟩ := bindS hx887
        refine x_setI w893 (e_op rr_pow e_int e_int) (by first | (simp only [be1, bs1, ba1] at hx895 ⊢; exact hx895) | exact hx895) ?_
        intro H896 w897
        refine x_next ?_
        have hx887 : value_894 = s886 := Option.some.inj hx887
        subst hx887
        exact ⟨G877, w897, (Evl.Ex.refl _), rfl⟩
      · intro hbb881 H898 w899
        subst hbb881
        have hx887 := bifF hx887
        refine x_next ?_
        have hx887 : x873.1 = s886 := Option.some.inj hx887
        subst hx887
        exact ⟨G877, w899, (Evl.Ex.refl _), rfl⟩
    · rintro σ' H901 ⟨G900, w889, e888, rfl⟩
      obtain ⟨a902, hx903, h⟩ := bindS h
      obtain ⟨h8, h9⟩ : a902 = r ∧ x873.2 = k' := Prod.mk.inj (Option.some.inj h)
      subst h8
      subst h9
      exact x_ret w889 (e_var (R := rI) (x := s886) rfl rfl) hx903 (fun v9 H9 G9 w9 e9 r9 => k v9 H9 G9 w9.f (w9.sub1 (i := 0) rfl) r9)
def m__law_answer_b1 (name0 : Str) (x919 : (Str × Int)) (s909 : Unit) : Option (Stp Unit (Option Int)) :=
  (some (decide (x919.1 = name0)) >>= fun b927 => bif b927 then (some (some x919.2) >>= fun a931 => some (Stp.rt a931)) else some (Stp.nx ()))
def m__law_answer (asks0 : (List (Str × Int))) (name0 : Str) : Option (Option Int) :=
  (some asks0 >>= fun xs904 => forL (m__law_answer_b1 name0) xs904 () >>= Sum.elim (fun s909 => (some (none : (Option Int)) >>= fun a942 => some a942)) (fun r => some r))
theorem sc__law_answer : FnScope ["_law_asks", "_law_name", "_law_pair"] ["_law_asks", "_law_name"] (defScope s__law_answer) := ⟨rfl, rfl, rfl, by decide +kernel, rfl, by decide +kernel, by decide +kernel⟩
theorem ok__law_answer (T : Tx K mg) : Fk P w K mg base CX0 1 "_law_answer" ["_law_asks", "_law_name"] (PF (aC (rL (rP rS rI)) (aC rS aN)) (rO rI) (fun i => m__law_answer i.1 i.2.1)) := by
  obtain ⟨fd, F⟩ := T.def_ 10 rfl
  have nd := sc__law_answer.nd
  refine fk_mk T.toTx (x := "_law_answer") (T.glo 11 rfl) F (fun _ _ _ _ _ _ us hl => match us, hl with | [_, _], _ => rfl) (F.ok sc__law_answer (fun vs H Q E h => ?_) (fun cdv A outer s H vs Q E hr h => ?_))
  · obtain ⟨G, ⟨asks0, name0, ⟨⟩⟩, r, e0, ⟨vasks0, _, rfl, hasks0, vname0, _, rfl, hname0, rfl⟩, h, k⟩ := h
    rfl
  · obtain ⟨G, ⟨asks0, name0, ⟨⟩⟩, r, e0, ⟨vasks0, _, rfl, hasks0, vname0, _, rfl, hname0, rfl⟩, h, k⟩ := h
    cases hname0
    have w0 := Wo.start e0
    have h : m__law_answer asks0 name0 = some r := h
    unfold m__law_answer at h
    refine ⟨_, PSs.nox (pss_cons (ps_for PassesOwn.never rfl (pi_list (pv 0)) (pg_name (i := 2) nd rfl (Or.inl rfl)) (pss_cons (ps_if (pt_cmpR op_eq (pe_ix (r := rIxT K) ix_tup (pv 2) pe_int (fun _ _ => rfl)) (pv 1) (nomark _)) (pss_cons (ps_ret (pe_ix (r := rIxT K) ix_tup (pv 2) pe_int (fun _ _ => rfl))) pss_nil) pss_nil) pss_nil)) (pss_cons (ps_ret pe_non) pss_nil)), ?_⟩
    obtain ⟨xs904, hx905, h⟩ := bindS h
    obtain ⟨t907, hx908, h⟩ := bindS h
    refine x_forL w0 (e_var (R := (rL (rP rS rI))) (x := asks0) rfl hasks0) hx905 (fun i G' H' σ' => ∃ s909 : Unit, ∃ u910 : Option V, Wo G H [] G' H' [] ∧ Evl.Ex G G' ∧ σ' = [some vasks0, some (V.str name0), u910] ∧ forL (m__law_answer_b1 name0) (xs904.drop i) s909 = some t907) (fun _ _ _ _ ⟨_, _, w, _⟩ => w.ex) ?_ ?_ ?_
    · intro G' H' w' e'
      exact ⟨(), (none), w', e', rfl, hx908⟩
    · rintro G921 e922 i918 x919 v923 σ' G914 H917 hx920 e925 ⟨s909, u910, w915, e916, rfl, hm912⟩ r924
      obtain ⟨q913, hb911, hm912⟩ := forL_at hx920 hm912
      have h926 := Rep.mono _ e916 hasks0
      refine g_name ?_
      unfold m__law_answer_b1 at hb911
      obtain ⟨b927, hx928, hb911⟩ := bindS hb911
      refine x_if w915 (et_T (e_op rr_eqS (e_fst (e_var (R := (rP rS rI)) (x := x919) rfl (Rep.mono _ w915.ex r924))) (e_var (R := rS) (x := name0) rfl rfl))) hx928 ?_ ?_
      · intro hbb927 H929 w930
        subst hbb927
        have hb911 := bifT hb911
        obtain ⟨a931, hx932, hb911⟩ := bindS hb911
        have hb911 : some (Stp.rt a931) = some q913 := hb911
        cases hb911
        have hm912 : some (Sum.inr a931) = some t907 := hm912
        cases hm912
        have h : a931 = r := Option.some.inj h
        subst h
        exact x_ret w930 (e_some (e_snd (e_var (R := (rP rS rI)) (x := x919) rfl r924))) hx932 (fun v9 H9 G9 w9 e9 r9 => k v9 H9 G9 w9.upE r9)
      · intro hbb927 H933 w934
        subst hbb927
        have hb911 := bifF hb911
        refine x_next ?_
        refine x_next ?_
        have hb911 : Stp.nx () = q913 := Option.some.inj hb911
        subst hb911
        exact ⟨G914, (e925.trans (Evl.Ex.refl _)), (), (some v923), w934, e916, rfl, hm912⟩
    · rintro σ' G935 H938 e939 ⟨s909, u910, w936, e937, rfl, hm912⟩
      have hm912 := forL_end hm912
      subst hm912
      have h := elimL h
      have h941 := Rep.mono _ e937 hasks0
      obtain ⟨a942, hx943, h⟩ := bindS h
      have h : a942 = r := Option.some.inj h
      subst h
      exact x_ret w936 (e_none (R := rI)) hx943 (fun v9 H9 G9 w9 e9 r9 => k v9 H9 G9 w9.upE r9)
def m__law_record_kept_b1 (record0 : m_Record) (asks0 : (List (Str × Int))) (x970 : Int) (s959 : Unit) : Option (Stp Unit Bool) :=
  (atI record0.asks x970 >>= fun pair_975 => ((orO (some (!true)) ((orO ((atI asks0 x970 >>= fun t986 => some (!decide (pair_975 = t986)))) ((m__law_int pair_975.2 >>= fun t987 => some (!t987)))))) >>= fun b988 => bif b988 then (some false >>= fun a992 => some (Stp.rt a992)) else some (Stp.nx ())))
def m__law_record_kept_b2 (record0 : m_Record) (asks0 : (List (Str × Int))) (x1081 : Str) (s1071 : Unit) : Option (Stp Unit Bool) :=
  ((m_Record_answer record0 x1081 >>= fun t1092 => (m__law_answer asks0 x1081 >>= fun t1093 => some (!decide (t1092 = t1093)))) >>= fun b1094 => bif b1094 then (some false >>= fun a1098 => some (Stp.rt a1098)) else some (Stp.nx ()))
def m__law_record_kept_b3 (x1131 : (Str × Int)) (s1121 : Str) : Option Str :=
  ((((addS s1121 (" " : Str) >>= fun t1142 => addS t1142 x1131.1) >>= fun t1143 => addS t1143 ("=" : Str)) >>= fun t1144 => (strI x1131.2 >>= fun t1145 => addS t1144 t1145)) >>= fun text_1146 => some (text_1146))
def m__law_record_kept (record0 : m_Record) (names_here0 : (List Str)) (owner0 : Str) (asks0 : (List (Str × Int))) (result0 : Int) : Option Bool :=
  (some ((!(decide (record0.name = owner0))) || ((!true) || (!((record0.asks.length : Int) == (asks0.length : Int))))) >>= fun b944 => bif b944 then (some false >>= fun a948 => some a948) else (some (asks0.length : Int) >>= fun n952 => rngM 0 n952 >>= fun xs954 => forL (m__law_record_kept_b1 record0 asks0) xs954 () >>= Sum.elim (fun s959 => (m_Record_asked record0 >>= fun told_1004 => (mapS (fun x1018 => some x1018.1) asks0 >>= fun due_1024 => (some ((!true) || (!decide (told_1004 = due_1024))) >>= fun b1035 => bif b1035 then (some false >>= fun a1039 => some a1039) else (some ("stranger10" : Str) >>= fun a1043 => appM told_1004 a1043 >>= fun told_1044 => ((orO ((m_Record_asked record0 >>= fun t1056 => some (!decide (t1056 = due_1024)))) ((orO ((m__law_int record0.result >>= fun t1057 => some (!t1057))) (some (!(record0.result == result0)))))) >>= fun b1058 => bif b1058 then (some false >>= fun a1062 => some a1062) else (catM names_here0 ([("stranger10" : Str)]) >>= fun xs1066 => forL (m__law_record_kept_b2 record0 asks0) xs1066 () >>= Sum.elim (fun s1071 => (addS owner0 (":" : Str) >>= fun text_1112 => (some asks0 >>= fun xs1116 => forS (m__law_record_kept_b3) xs1116 text_1112 >>= fun s1121 => ((m_Record_written record0 >>= fun t1162 => ((addS s1121 (" -> " : Str) >>= fun t1160 => (strI result0 >>= fun t1161 => addS t1160 t1161)) >>= fun t1163 => some (decide (t1162 = t1163)))) >>= fun a1164 => some a1164)))) (fun r => some r)))))))) (fun r => some r)))
theorem sc__law_record_kept : FnScope ["_law_record", "_law_names_here", "_law_owner", "_law_asks", "_law_result", "_law_k", "_law_told", "_law_due", "_law_name", "_law_text", "_law_pair"] ["_law_record", "_law_names_here", "_law_owner", "_law_asks", "_law_result"] (defScope s__law_record_kept) := ⟨rfl, rfl, rfl, by decide +kernel, rfl, by decide +kernel, by decide +kernel⟩
theorem ok__law_record_kept (T : Tx K mg) : Fk P w K mg base CX0 2 "_law_record_kept" ["_law_record", "_law_names_here", "_law_owner", "_law_asks", "_law_result"] (PF (aC (r_Record K) (aC (rL rS) (aC rS (aC (rL (rP rS rI)) (aC rI aN))))) rB (fun i => m__law_record_kept i.1 i.2.1 i.2.2.1 i.2.2.2.1 i.2.2.2.2.1)) := by
  obtain ⟨fd__law_int, G__law_int, b__law_int, k__law_int, g__law_int⟩ := ok__law_int (w := w) (base := base) T
  obtain ⟨fd_Record_asked, G_Record_asked, b_Record_asked⟩ := ok_Record_asked (w := w) (base := base) T
  obtain ⟨fd_Record_answer, G_Record_answer, b_Record_answer⟩ := ok_Record_answer (w := w) (base := base) T
  obtain ⟨fd__law_answer, G__law_answer, b__law_answer, k__law_answer, g__law_answer⟩ := ok__law_answer (w := w) (base := base) T
  obtain ⟨fd_Record_written, G_Record_written, b_Record_written⟩ := ok_Record_written (w := w) (base := base) T
  obtain ⟨fd, F⟩ := T.def_ 11 rfl
  have nd := sc__law_record_kept.nd
  refine fk_mk T.toTx (x := "_law_record_kept") (T.glo 12 rfl) F (fun _ _ _ _ _ _ us hl => match us, hl with | [_, _, _, _, _], _ => rfl) (F.ok sc__law_record_kept (fun vs H Q E h => ?_) (fun cdv A outer s H vs Q E hr h => ?_))
  · obtain ⟨G, ⟨record0, names_here0, owner0, asks0, result0, ⟨⟩⟩, r, e0, ⟨vrecord0, _, rfl, hrecord0, vnames_here0, _, rfl, hnames_here0, vowner0, _, rfl, howner0, vasks0, _, rfl, hasks0, vresult0, _, rfl, hresult0, rfl⟩, h, k⟩ := h
    rfl
  · obtain ⟨G, ⟨record0, names_here0, owner0, asks0, result0, ⟨⟩⟩, r, e0, ⟨vrecord0, _, rfl, hrecord0, vnames_here0, _, rfl, hnames_here0, vowner0, _, rfl, howner0, vasks0, _, rfl, hasks0, vresult0, _, rfl, hresult0, rfl⟩, h, k⟩ := h
    cases howner0
    cases hresult0
    have w0 := Wo.start e0
    have h : m__law_record_kept record0 names_here0 owner0 asks0 result0 = some r := h
    unfold m__law_record_kept at h
    refine ⟨_, PSs.nox (pss_cons (ps_if (PW.pt (pw_or (pt_cmpR op_ne (show L2.PE _ _ (SlX.tSl K _ _) from (SlX.pe_sl (pv 0) (by rfl))) (pv 2) (nomark _)) (pw_or (pt_not (pt_val (pe_callB (r := rIsi K) call_isi (by rfl) (fr_isinstance T) (by decide +kernel) (pa_cons (show L2.PE _ _ (SlX.tSl K _ _) from (SlX.pe_sl (pv 0) (by rfl))) (pa_cons (pe_bltn (v := .ty "tuple") (by rfl) (fr_tuple T) (by decide +kernel) rfl) pa_nil))))) (pw_or1 (pt_cmpR op_ne (pe_callB (r := rLn K) call_len_seq (by rfl) (fr_len T) (by decide +kernel) (pa_cons (show L2.PE _ _ (SlX.tSl K _ _) from (SlX.pe_sl (pv 0) (by rfl))) pa_nil)) (pe_callB (r := rLn K) call_len_seq (by rfl) (fr_len T) (by decide +kernel) (pa_cons (pv 3) pa_nil)) (nomark _)))))) (pss_cons (ps_ret pe_bl) pss_nil) pss_nil) (pss_cons (ps_for PassesOwn.never rfl (pi_range1 (by rfl) (fr_range T) (pa_cons (pe_callB (r := rLn K) call_len_seq (by rfl) (fr_len T) (by decide +kernel) (pa_cons (pv 3) pa_nil)) pa_nil)) (pg_name (i := 5) nd rfl (Or.inl rfl)) (pss_cons (ps_set (i := 10) nd rfl (Or.inl rfl) (pe_ix (r := rIxT K) ix_tup (SlX.pe_sl (pv 0) (by rfl)) (pv 5) (fun _ _ => rfl))) (pss_cons (ps_if (PW.pt (pw_or (pt_not (pt_val (pe_callB (r := rIsi K) call_isi (by rfl) (fr_isinstance T) (by decide +kernel) (pa_cons (pv 10) (pa_cons (pe_bltn (v := .ty "tuple") (by rfl) (fr_tuple T) (by decide +kernel) rfl) pa_nil))))) (pw_or (pt_cmpR (r := rNeP K) (op_neP hr.units) (pv 10) (pe_ix (r := rIxL K) ix_list (pv 3) (pv 5) (fun _ _ => rfl)) (nomark _)) (pw_or1 (pt_not (pt_val (pe_call G__law_int (hr.mono (by decide)) rfl g__law_int k__law_int b__law_int .nil pass0 (pa_cons (pe_ix (r := rIxT K) ix_tup (pv 10) pe_int (fun _ _ => rfl)) pa_nil)))))))) (pss_cons (ps_ret pe_bl) pss_nil) pss_nil) pss_nil))) (pss_cons (ps_set (i := 6) nd rfl (Or.inl rfl) (SlX.pe_methSl0 (pv 0) (scl_ok (T.mo 0 rfl)) (T.meth 28 rfl) (fnR_of G_Record_asked b_Record_asked) (hr.mono (by decide)) pass0)) (pss_cons (ps_setLc (i := 7) (own := [("_law_pair", 10)]) (by rfl) nd rfl rfl (sw_true rfl rfl rfl (by decide +kernel)) (show L2.PI _ _ _ (iList K _) from pi_list (pv 3)) (blkOk_by (by kernel_rfl)) (fun _ _ _ _ _ => pg_name (i := 10) nd rfl (by first | exact Or.inl rfl | exact Or.inr rfl)) (fun _ _ _ _ _ => pts_nil) (fun _ _ _ _ _ => (pe_ix (r := rIxT K) ix_tup (pv 10) pe_int (fun _ _ => rfl)))) (pss_cons (ps_if (PW.pt (pw_or (pt_not (pt_val (pe_callB (r := rIsi K) call_isi (by rfl) (fr_isinstance T) (by decide +kernel) (pa_cons (pv 6) (pa_cons (pe_bltn (v := .ty "list") (by rfl) (fr_list T) (by decide +kernel) rfl) pa_nil))))) (pw_or1 (pt_cmpR (r := rNeP K) (op_neP hr.units) (pv 6) (pv 7) (nomark _))))) (pss_cons (ps_ret pe_bl) pss_nil) pss_nil) (pss_cons (ps_expr (pe_bm PySem.F.plainAttrs_list PySem.F.slot_list_append PySem.F.type_list_append mt_append (pv 6) (pa_cons pe_str pa_nil))) (pss_cons (ps_if (PW.pt (pw_or (pt_cmpR (r := rNeP K) (op_neP hr.units) (SlX.pe_methSl0 (pv 0) (scl_ok (T.mo 0 rfl)) (T.meth 28 rfl) (fnR_of G_Record_asked b_Record_asked) (hr.mono (by decide)) pass0) (pv 7) (nomark _)) (pw_or (pt_not (pt_val (pe_call G__law_int (hr.mono (by decide)) rfl g__law_int k__law_int b__law_int .nil pass0 (pa_cons (show L2.PE _ _ (SlX.tSl K _ _) from (SlX.pe_sl (pv 0) (by rfl))) pa_nil)))) (pw_or1 (pt_cmpR op_ne (show L2.PE _ _ (SlX.tSl K _ _) from (SlX.pe_sl (pv 0) (by rfl))) (pv 4) (nomark _)))))) (pss_cons (ps_ret pe_bl) pss_nil) pss_nil) (pss_cons (ps_for PassesOwn.never rfl (pi_list (pe_op op_cat (pv 1) (pe_lst (pa_cons pe_str pa_nil)))) (pg_name (i := 8) nd rfl (Or.inl rfl)) (pss_cons (ps_if (pt_cmpR (r := rNeP K) (op_neP hr.units) (SlX.pe_methSl (pv 0) (scl_ok (T.mo 0 rfl)) (T.meth 29 rfl) (fnR_of G_Record_answer b_Record_answer) (hr.mono (by decide)) pass0 (pa_cons (pv 8) pa_nil)) (pe_call G__law_answer (hr.mono (by decide)) rfl g__law_answer k__law_answer b__law_answer .nil pass0 (pa_cons (pv 3) (pa_cons (pv 8) pa_nil))) (nomark _)) (pss_cons (ps_ret pe_bl) pss_nil) pss_nil) pss_nil)) (pss_cons (ps_set (i := 9) nd rfl (Or.inl rfl) (pe_op (r := rAddS) op_add_str (pv 2) pe_str)) (pss_cons (ps_for PassesOwn.never rfl (pi_list (pv 3)) (pg_name (i := 10) nd rfl (Or.inl rfl)) (pss_cons (ps_set (i := 9) nd rfl (Or.inl rfl) (pe_op (r := rAddS) op_add_str (pe_op (r := rAddS) op_add_str (pe_op (r := rAddS) op_add_str (pe_op (r := rAddS) op_add_str (pv 9) pe_str) (pe_ix (r := rIxT K) ix_tup (pv 10) pe_int (fun _ _ => rfl))) pe_str) (pe_callTy (r := rStrI) call_str_int (by rfl) (fr_str T) (by decide +kernel) (pa_cons (pe_ix (r := rIxT K) ix_tup (pv 10) pe_int (fun _ _ => rfl)) pa_nil)))) pss_nil)) (pss_cons (ps_ret (pe_cmpR op_eq (SlX.pe_methSl0 (pv 0) (scl_ok (T.mo 0 rfl)) (T.meth 30 rfl) (fnR_of G_Record_written b_Record_written) (hr.mono (by decide)) pass0) (pe_op (r := rAddS) op_add_str (pe_op (r := rAddS) op_add_str (pv 9) pe_str) (pe_callTy (r := rStrI) call_str_int (by rfl) (fr_str T) (by decide +kernel) (pa_cons (pv 4) pa_nil))) (nomark _))) pss_nil))))))))))), ?_⟩
    obtain ⟨b944, hx945, h⟩ := bindS h
    refine x_if w0 (et_orP (et_T (e_op rr_neS (e_sl (fun (o : m_Record) => o.name) (e_var (R := (r_Record K)) (x := record0) rfl (Rep.mono _ w0.ex hrecord0)) (scl_ok (T.mo 0 rfl)) (slot_ok (T.mo 1 rfl)) (fun _ => (List.mem_cons_self ..))) (e_var (R := rS) (x := owner0) rfl rfl))) (et_orP (et_not (et_B (e_isi (e_sl (fun (o : m_Record) => o.asks) (e_var (R := (r_Record K)) (x := record0) rfl (Rep.mono _ w0.ex hrecord0)) (scl_ok (T.mo 0 rfl)) (slot_ok (T.mo 2 rfl)) (fun _ => (List.mem_cons_of_mem _ (List.mem_cons_self ..)))) ktT (n := "tuple") (c := "tuple") (b := true) (by decide +kernel)))) (et_T (e_op rr_neI (e_cb rc_lenT (ea_cons (e_sl (fun (o : m_Record) => o.asks) (e_var (R := (r_Record K)) (x := record0) rfl (Rep.mono _ w0.ex hrecord0)) (scl_ok (T.mo 0 rfl)) (slot_ok (T.mo 2 rfl)) (fun _ => (List.mem_cons_of_mem _ (List.mem_cons_self ..)))) ea_nil)) (e_cb rc_lenL (ea_cons (e_var (R := (rL (rP rS rI))) (x := asks0) rfl (Rep.mono _ w0.ex hasks0)) ea_nil)))))) hx945 ?_ ?_
    · intro hbb944 H946 w947
      subst hbb944
      have h := bifT h
      obtain ⟨a948, hx949, h⟩ := bindS h
      have h : a948 = r := Option.some.inj h
      subst h
      exact x_ret w947 e_bl hx949 (fun v9 H9 G9 w9 e9 r9 => k v9 H9 G9 w9.upE r9)
    · intro hbb944 H950 w951
      subst hbb944
      have h := bifF h
      refine x_next ?_
      obtain ⟨n952, hx953, h⟩ := bindS h
      obtain ⟨xs954, hx955, h⟩ := bindS h
      obtain ⟨t957, hx958, h⟩ := bindS h
      refine x_forR w951 (ea_cons (Sim.E.is (e_cb rc_lenL (ea_cons (e_var (R := (rL (rP rS rI))) (x := asks0) rfl hasks0) ea_nil)) hx953) ea_nil) rfl hx955 (fun i G' H' σ' => ∃ s959 : Unit, ∃ u960 : Option V, ∃ u961 : Option V, Wo G H [] G' H' [] ∧ Evl.Ex G G' ∧ σ' = [some vrecord0, some vnames_here0, some (V.str owner0), some vasks0, some (V.int result0), u960, none, none, none, none, u961] ∧ forL (m__law_record_kept_b1 record0 asks0) (xs954.drop i) s959 = some t957) ?_ ?_ ?_
      · intro G' H' w' e'
        exact ⟨(), (none), (none), w', e', rfl, hx958⟩
      · rintro i969 x970 σ' G965 H968 hx971 ⟨s959, u960, u961, w966, e967, rfl, hm963⟩
        obtain ⟨q964, hb962, hm963⟩ := forL_at hx971 hm963
        have h972 := Rep.mono _ e967 hrecord0
        have h973 := Rep.mono _ e967 hnames_here0
        have h974 := Rep.mono _ e967 hasks0
        refine g_name ?_
        unfold m__law_record_kept_b1 at hb962
        obtain ⟨pair_975, hx976, hb962⟩ := bindS hb962
        refine x_set w966 (e_op rr_ixT (e_sl (fun (o : m_Record) => o.asks) (e_var (R := (r_Record K)) (x := record0) rfl h972) (scl_ok (T.mo 0 rfl)) (slot_ok (T.mo 2 rfl)) (fun _ => (List.mem_cons_of_mem _ (List.mem_cons_self ..)))) (e_var (R := rI) (x := x970) rfl rfl)) (by first | (simp only [be1, bs1, ba1] at hx976 ⊢; exact hx976) | exact hx976) ?_
        intro v979 H977 G980 w978 e981 h982
        have h983 := Rep.mono _ e981 h972
        have h984 := Rep.mono _ e981 h973
        have h985 := Rep.mono _ e981 h974
        obtain ⟨b988, hx989, hb962⟩ := bindS hb962
        refine x_if w978 (et_or (et_not (et_B (e_isi (e_var (R := (rP rS rI)) (x := pair_975) rfl (Rep.mono _ w978.ex h982)) ktP (n := "tuple") (c := "tuple") (b := true) (by decide +kernel)))) (et_or (et_T (e_op (rr_neD (dtP dtS dtI) (by decide)) (e_var (R := (rP rS rI)) (x := pair_975) rfl (Rep.mono _ w978.ex h982)) (e_op rr_ixL (e_var (R := (rL (rP rS rI))) (x := asks0) rfl (Rep.mono _ w978.ex h985)) (e_var (R := rI) (x := x970) rfl rfl)))) (et_not (et_B (e_call (ea_cons (e_snd (e_var (R := (rP rS rI)) (x := pair_975) rfl (Rep.mono _ w978.ex h982))) ea_nil)))))) (by first | (simp only [be1, bs1, ba1] at hx989 ⊢; exact hx989) | exact hx989) ?_ ?_
        · intro hbb988 H990 w991
          subst hbb988
          have hb962 := bifT hb962
          obtain ⟨a992, hx993, hb962⟩ := bindS hb962
          have hb962 : some (Stp.rt a992) = some q964 := hb962
          cases hb962
          have hm963 : some (Sum.inr a992) = some t957 := hm963
          cases hm963
          have h : a992 = r := Option.some.inj h
          subst h
          exact x_ret w991 e_bl hx993 (fun v9 H9 G9 w9 e9 r9 => k v9 H9 G9 w9.upE r9)
        · intro hbb988 H994 w995
          subst hbb988
          have hb962 := bifF hb962
          refine x_next ?_
          refine x_next ?_
          have hb962 : Stp.nx () = q964 := Option.some.inj hb962
          subst hb962
          exact ⟨G980, (), (some (V.int x970)), (some v979), w995, (e967.trans e981), rfl, hm963⟩
      · rintro σ' G996 H999 ⟨s959, u960, u961, w997, e998, rfl, hm963⟩
        have hm963 := forL_end hm963
        subst hm963
        have h := elimL h
        have h1001 := Rep.mono _ e998 hrecord0
        have h1002 := Rep.mono _ e998 hnames_here0
        have h1003 := Rep.mono _ e998 hasks0
        obtain ⟨told_1004, hx1005, h⟩ := bindS h
        refine x_setL w997 (el_methS (e_var (R := (r_Record K)) (x := record0) rfl h1001) ea_nil) (by first | (simp only [be1, bs1, ba1] at hx1005 ⊢; exact hx1005) | exact hx1005) ?_
        intro p1008 H1006 G1009 n1010 w1007 e1011
        have h1012 := Rep.mono _ e1011 h1001
        have h1013 := Rep.mono _ e1011 h1002
        have h1014 := Rep.mono _ e1011 h1003
        obtain ⟨due_1024, hx1025, h⟩ := bindS h
        refine x_set w1007 (EL.e (el_map (el_lcL (j := 10) (e_var (R := (rL (rP rS rI))) (x := asks0) rfl h1014) (fun _ => rfl) (fun _ _ _ _ _ _ _ _ => et_yes) (fun x1018 v1021 G1019 W1020 eG1015 eW1016 eX1017 h1022 => (e_fst (e_var (R := (rP rS rI)) (x := x1018) rfl h1022)))))) hx1025 ?_
        intro v1028 H1026 G1029 w1027 e1030 h1031
        have h1032 := Rep.mono _ e1030 h1012
        have h1033 := Rep.mono _ e1030 h1013
        have h1034 := Rep.mono _ e1030 h1014
        obtain ⟨b1035, hx1036, h⟩ := bindS h
        refine x_if w1027 (et_orP (et_not (et_B (e_isi (e_var (R := (rL rS)) (x := told_1004) rfl (w1027.rlAt (i := 0) rfl)) ktL (n := "list") (c := "list") (b := true) (by decide +kernel)))) (et_T (e_op (rr_neD (dtL dtS) (by decide)) (e_var (R := (rL rS)) (x := told_1004) rfl (w1027.rlAt (i := 0) rfl)) (e_var (R := (rL rS)) (x := due_1024) rfl (Rep.mono _ w1027.ex h1031))))) hx1036 ?_ ?_
        · intro hbb1035 H1037 w1038
          subst hbb1035
          have h := bifT h
          obtain ⟨a1039, hx1040, h⟩ := bindS h
          have h : a1039 = r := Option.some.inj h
          subst h
          exact x_ret w1038 e_bl hx1040 (fun v9 H9 G9 w9 e9 r9 => k v9 H9 G9 w9.upE r9)
        · intro hbb1035 H1041 w1042
          subst hbb1035
          have h := bifF h
          refine x_next ?_
          obtain ⟨a1043, hx1045, h⟩ := bindS h
          obtain ⟨told_1044, hx1046, h⟩ := bindS h
          obtain ⟨hs1047, rfl⟩ := appM_ok hx1046
          refine x_app (j := 0) w1042 rfl hs1047 rfl e_str hx1045 ?_
          intro H1048 G1049 w1050 e1051
          have h1052 := Rep.mono _ e1051 h1032
          have h1053 := Rep.mono _ e1051 h1033
          have h1054 := Rep.mono _ e1051 h1034
          have h1055 := Rep.mono _ e1051 h1031
          have w1050 : Wo G H [] G1049 H1048 [(p1008, cL rS (told_1004 ++ [a1043]))] := w1050
          obtain ⟨b1058, hx1059, h⟩ := bindS h
          refine x_if w1050 (et_or (et_T (e_op (rr_neD (dtL dtS) (by decide)) (EL.e (el_methS (e_var (R := (r_Record K)) (x := record0) rfl (Rep.mono _ w1050.ex h1052)) ea_nil)) (e_var (R := (rL rS)) (x := due_1024) rfl (Rep.mono _ w1050.ex h1055)))) (et_or (et_not (et_B (e_call (ea_cons (e_sl (fun (o : m_Record) => o.result) (e_var (R := (r_Record K)) (x := record0) rfl (Rep.mono _ w1050.ex h1052)) (scl_ok (T.mo 0 rfl)) (slot_ok (T.mo 3 rfl)) (fun _ => (List.mem_cons_of_mem _ (List.mem_cons_of_mem _ (List.mem_cons_self ..))))) ea_nil)))) (et_T (e_op rr_neI (e_sl (fun (o : m_Record) => o.result) (e_var (R := (r_Record K)) (x := record0) rfl (Rep.mono _ w1050.ex h1052)) (scl_ok (T.mo 0 rfl)) (slot_ok (T.mo 3 rfl)) (fun _ => (List.mem_cons_of_mem _ (List.mem_cons_of_mem _ (List.mem_cons_self ..))))) (e_var (R := rI) (x := result0) rfl rfl))))) (by first | (simp only [be1, bs1, ba1] at hx1059 ⊢; exact hx1059) | exact hx1059) ?_ ?_
          · intro hbb1058 H1060 w1061
            subst hbb1058
            have h := bifT h
            obtain ⟨a1062, hx1063, h⟩ := bindS h
            have h : a1062 = r := Option.some.inj h
            subst h
            exact x_ret w1061 e_bl hx1063 (fun v9 H9 G9 w9 e9 r9 => k v9 H9 G9 w9.upE r9)
          · intro hbb1058 H1064 w1065
            subst hbb1058
            have h := bifF h
            refine x_next ?_
            obtain ⟨xs1066, hx1067, h⟩ := bindS h
            obtain ⟨t1069, hx1070, h⟩ := bindS h
            refine x_forL w1065 (EL.e (el_op rrl_cat (e_var (R := (rL rS)) (x := names_here0) rfl h1053) (EL.e (el_disp (eal_cons e_str eal_nil))))) (by first | (simp only [be1, bs1, ba1] at hx1067 ⊢; exact hx1067) | exact hx1067) (fun i G' H' σ' => ∃ s1071 : Unit, ∃ u1072 : Option V, Wo G H [] G' H' [(p1008, cL rS (told_1004 ++ [a1043]))] ∧ Evl.Ex G1049 G' ∧ σ' = [some vrecord0, some vnames_here0, some (V.str owner0), some vasks0, some (V.int result0), u960, some (V.ref p1008), some v1028, u1072, none, u961] ∧ forL (m__law_record_kept_b2 record0 asks0) (xs1066.drop i) s1071 = some t1069) (fun _ _ _ _ ⟨_, _, w, _⟩ => w.ex) ?_ ?_ ?_
            · intro G' H' w' e'
              exact ⟨(), (none), w', e', rfl, hx1070⟩
            · rintro G1083 e1084 i1080 x1081 v1085 σ' G1076 H1079 hx1082 e1087 ⟨s1071, u1072, w1077, e1078, rfl, hm1074⟩ r1086
              obtain ⟨q1075, hb1073, hm1074⟩ := forL_at hx1082 hm1074
              have h1088 := Rep.mono _ e1078 h1052
              have h1089 := Rep.mono _ e1078 h1053
              have h1090 := Rep.mono _ e1078 h1054
              have h1091 := Rep.mono _ e1078 h1055
              refine g_name ?_
              cases r1086
              unfold m__law_record_kept_b2 at hb1073
              obtain ⟨b1094, hx1095, hb1073⟩ := bindS hb1073
              refine x_if w1077 (et_T (e_op (rr_neD (dtO dtI) (by decide)) (e_methS (e_var (R := (r_Record K)) (x := record0) rfl (Rep.mono _ w1077.ex h1088)) (ea_cons (e_var (R := rS) (x := x1081) rfl rfl) ea_nil)) (e_call (ea_cons (e_var (R := (rL (rP rS rI))) (x := asks0) rfl (Rep.mono _ w1077.ex h1090)) (ea_cons (e_var (R := rS) (x := x1081) rfl rfl) ea_nil))))) (by first | (simp only [be1, bs1, ba1] at hx1095 ⊢; exact hx1095) | exact hx1095) ?_ ?_
              · intro hbb1094 H1096 w1097
                subst hbb1094
                have hb1073 := bifT hb1073
                obtain ⟨a1098, hx1099, hb1073⟩ := bindS hb1073
                have hb1073 : some (Stp.rt a1098) = some q1075 := hb1073
                cases hb1073
                have hm1074 : some (Sum.inr a1098) = some t1069 := hm1074
                cases hm1074
                have h : a1098 = r := Option.some.inj h
                subst h
                exact x_ret w1097 e_bl hx1099 (fun v9 H9 G9 w9 e9 r9 => k v9 H9 G9 w9.upE r9)
              · intro hbb1094 H1100 w1101
                subst hbb1094
                have hb1073 := bifF hb1073
                refine x_next ?_
                refine x_next ?_
                have hb1073 : Stp.nx () = q1075 := Option.some.inj hb1073
                subst hb1073
                exact ⟨G1076, (e1087.trans (Evl.Ex.refl _)), (), (some (V.str x1081)), w1101, e1078, rfl, hm1074⟩
            · rintro σ' G1102 H1105 e1106 ⟨s1071, u1072, w1103, e1104, rfl, hm1074⟩
              have hm1074 := forL_end hm1074
              subst hm1074
              have h := elimL h
              have h1108 := Rep.mono _ e1104 h1052
              have h1109 := Rep.mono _ e1104 h1053
              have h1110 := Rep.mono _ e1104 h1054
              have h1111 := Rep.mono _ e1104 h1055
              obtain ⟨text_1112, hx1113, h⟩ := bindS h
              refine x_setS w1103 (e_op rr_addS (e_var (R := rS) (x := owner0) rfl rfl) e_str) (by first | (simp only [be1, bs1, ba1] at hx1113 ⊢; exact hx1113) | exact hx1113) ?_
              intro H1114 w1115
              obtain ⟨xs1116, hx1117, h⟩ := bindS h
              obtain ⟨t1119, hx1120, h⟩ := bindS h
              refine x_forL w1115 (e_var (R := (rL (rP rS rI))) (x := asks0) rfl h1110) hx1117 (fun i G' H' σ' => ∃ s1121 : Str, ∃ u1122 : Option V, Wo G H [] G' H' [(p1008, cL rS (told_1004 ++ [a1043]))] ∧ Evl.Ex G1102 G' ∧ σ' = [some vrecord0, some vnames_here0, some (V.str owner0), some vasks0, some (V.int result0), u960, some (V.ref p1008), some v1028, u1072, some (V.str s1121), u1122] ∧ forS (m__law_record_kept_b3) (xs1116.drop i) s1121 = some t1119) (fun _ _ _ _ ⟨_, _, w, _⟩ => w.ex) ?_ ?_ ?_
              · intro G' H' w' e'
                exact ⟨text_1112, (u961), w', e', rfl, hx1120⟩
              · rintro G1133 e1134 i1130 x1131 v1135 σ' G1126 H1129 hx1132 e1137 ⟨s1121, u1122, w1127, e1128, rfl, hm1124⟩ r1136
                obtain ⟨q1125, hb1123, hm1124⟩ := forS_at hx1132 hm1124
                have h1138 := Rep.mono _ e1128 h1108
                have h1139 := Rep.mono _ e1128 h1109
                have h1140 := Rep.mono _ e1128 h1110
                have h1141 := Rep.mono _ e1128 h1111
                refine g_name ?_
                unfold m__law_record_kept_b3 at hb1123
                obtain ⟨text_1146, hx1147, hb1123⟩ := bindS hb1123
                refine x_setS w1127 (e_op rr_addS (e_op rr_addS (e_op rr_addS (e_op rr_addS (e_var (R := rS) (x := s1121) rfl rfl) e_str) (e_fst (e_var (R := (rP rS rI)) (x := x1131) rfl r1136))) e_str) (e_cb rc_strI (ea_cons (e_snd (e_var (R := (rP rS rI)) (x := x1131) rfl r1136)) ea_nil))) (by first | (simp only [be1, bs1, ba1] at hx1147 ⊢; exact hx1147) | exact hx1147) ?_
                intro H1148 w1149
                refine x_next ?_
                have hb1123 : text_1146 = q1125 := Option.some.inj hb1123
                subst hb1123
                exact ⟨G1126, (e1137.trans (Evl.Ex.refl _)), text_1146, (some v1135), w1149, e1128, rfl, hm1124⟩
              · rintro σ' G1150 H1153 e1154 ⟨s1121, u1122, w1151, e1152, rfl, hm1124⟩
                have hm1124 := forS_end hm1124
                subst hm1124
                have h1156 := Rep.mono _ e1152 h1108
                have h1157 := Rep.mono _ e1152 h1109
                have h1158 := Rep.mono _ e1152 h1110
                have h1159 := Rep.mono _ e1152 h1111
                obtain ⟨a1164, hx1165, h⟩ := bindS h
                have h : a1164 = r := Option.some.inj h
                subst h
                exact x_ret w1151 (e_op rr_eqS (e_methS (e_var (R := (r_Record K)) (x := record0) rfl h1156) ea_nil) (e_op rr_addS (e_op rr_addS (e_var (R := rS) (x := s1121) rfl rfl) e_str) (e_cb rc_strI (ea_cons (e_var (R := rI) (x := result0) rfl rfl) ea_nil)))) (by first | (simp only [be1, bs1, ba1] at hx1165 ⊢; exact hx1165) | exact hx1165) (fun v9 H9 G9 w9 e9 r9 => k v9 H9 G9 w9.upE r9)
def m__law_unlike (owner0 : Str) (asks0 : (List (Str × Int))) (result0 : Int) : Option (List m_Record) :=
  ((m_Record___init__ owner0 asks0 (result0 + (1 : Int)) >>= fun t1167 => ((addS owner0 ("y" : Str) >>= fun t1166 => m_Record___init__ t1166 asks0 result0) >>= fun t1168 => some ([t1167, t1168]))) >>= fun others_1169 => ((catM asks0 ([(("stranger10" : Str), (0 : Int))]) >>= fun t1178 => m_Record___init__ owner0 t1178 result0) >>= fun a1179 => appM others_1169 a1179 >>= fun others_1180 => ((some (decide ((0 : Int) < (asks0.length : Int))) >>= fun b1189 => bif b1189 then (some asks0 >>= fun changed_1271 => (((atI asks0 (0 : Int) >>= fun t1280 => some t1280.1) >>= fun t1283 => (((atI asks0 (0 : Int) >>= fun t1281 => some t1281.2) >>= fun t1282 => some (t1282 + (1 : Int))) >>= fun t1284 => some (t1283, t1284))) >>= fun a1285 => some (0 : Int) >>= fun i1286 => setM changed_1271 i1286 a1285 >>= fun changed_1287 => (m_Record___init__ owner0 changed_1287 result0 >>= fun a1301 => appM others_1180 a1301 >>= fun others_1302 => (m_Record___init__ owner0 (cutM asks0 none (some ((asks0.length : Int) - (1 : Int)))) result0 >>= fun a1312 => appM others_1302 a1312 >>= fun others_1313 => ((((((atI asks0 (0 : Int) >>= fun t1327 => some t1327.2) >>= fun t1328 => some (("stranger10" : Str), t1328)) >>= fun t1329 => some ([t1329])) >>= fun t1330 => catM t1330 (cutM asks0 (some (1 : Int)) none)) >>= fun t1331 => m_Record___init__ owner0 t1331 result0) >>= fun a1332 => appM others_1313 a1332 >>= fun others_1333 => some others_1333))))) else some others_1180) >>= fun s1262 => ((some (decide ((1 : Int) < (asks0.length : Int))) >>= fun b1348 => bif b1348 then ((catM (cutM asks0 (some (1 : Int)) none) (cutM asks0 none (some (1 : Int))) >>= fun t1368 => m_Record___init__ owner0 t1368 result0) >>= fun a1369 => appM s1262 a1369 >>= fun others_1370 => some others_1370) else some s1262) >>= fun s1360 => some s1360))))
theorem sc__law_unlike : FnScope ["_law_owner", "_law_asks", "_law_result", "_law_others", "_law_changed"] ["_law_owner", "_law_asks", "_law_result"] (defScope s__law_unlike) := ⟨rfl, rfl, rfl, by decide +kernel, rfl, by decide +kernel, by decide +kernel⟩
theorem ok__law_unlike (T : Tx K mg) : Fk P w K mg base CX0 3 "_law_unlike" ["_law_owner", "_law_asks", "_law_result"] (PL (aC rS (aC (rL (rP rS rI)) (aC rI aN))) (r_Record K) (fun i => m__law_unlike i.1 i.2.1 i.2.2.1)) := by
  obtain ⟨fd_Record___init__, G_Record___init__, b_Record___init__⟩ := ok_Record___init__ (w := w) (base := base) T
  obtain ⟨fd, F⟩ := T.def_ 12 rfl
  have nd := sc__law_unlike.nd
  refine fk_mk T.toTx (x := "_law_unlike") (T.glo 13 rfl) F (fun _ _ _ _ _ _ us hl => match us, hl with | [_, _, _], _ => rfl) (F.ok sc__law_unlike (fun vs H Q E h => ?_) (fun cdv A outer s H vs Q E hr h => ?_))
  · obtain ⟨G, ⟨owner0, asks0, result0, ⟨⟩⟩, r, e0, ⟨vowner0, _, rfl, howner0, vasks0, _, rfl, hasks0, vresult0, _, rfl, hresult0, rfl⟩, h, k⟩ := h
    rfl
  · obtain ⟨G, ⟨owner0, asks0, result0, ⟨⟩⟩, r, e0, ⟨vowner0, _, rfl, howner0, vasks0, _, rfl, hasks0, vresult0, _, rfl, hresult0, rfl⟩, h, k⟩ := h
    cases howner0
    cases hresult0
    have w0 := Wo.start e0
    have h : m__law_unlike owner0 asks0 result0 = some r := h
    unfold m__law_unlike at h
    refine ⟨_, PSs.nox (pss_cons (ps_set (i := 3) nd rfl (Or.inl rfl) (pe_lst (pa_cons (pe_make (T.mkr 31 rfl) G_Record___init__ (hr.mono (by decide)) rfl (T.glo 5 rfl) b_Record___init__ .nil pass0 (pa_cons (pv 0) (pa_cons (pv 1) (pa_cons (pe_op op_add (pv 2) pe_int) pa_nil)))) (pa_cons (pe_make (T.mkr 31 rfl) G_Record___init__ (hr.mono (by decide)) rfl (T.glo 5 rfl) b_Record___init__ .nil pass0 (pa_cons (pe_op (r := rAddS) op_add_str (pv 0) pe_str) (pa_cons (pv 1) (pa_cons (pv 2) pa_nil)))) pa_nil)))) (pss_cons (ps_expr (pe_bm PySem.F.plainAttrs_list PySem.F.slot_list_append PySem.F.type_list_append mt_append (pv 3) (pa_cons (pe_make (T.mkr 31 rfl) G_Record___init__ (hr.mono (by decide)) rfl (T.glo 5 rfl) b_Record___init__ .nil pass0 (pa_cons (pv 0) (pa_cons (pe_op op_cat (pv 1) (pe_lst (pa_cons (pe_tup (pa_cons pe_str (pa_cons pe_int pa_nil))) pa_nil))) (pa_cons (pv 2) pa_nil)))) pa_nil))) (Evl.pss_cut (ps_if (pt_cmpR op_gt (pe_callB (r := rLn K) call_len_seq (by rfl) (fr_len T) (by decide +kernel) (pa_cons (pv 1) pa_nil)) pe_int (nomark _)) (pss_cons (ps_set (i := 4) nd rfl (Or.inl rfl) (pe_callTy (r := rLs K) call_list_of (by rfl) (fr_list T) (by decide +kernel) (pa_cons (pv 1) pa_nil))) (pss_cons (ps_asg (pe_tup (pa_cons (pe_ix (r := rIxT K) ix_tup (pe_ix (r := rIxL K) ix_list (pv 1) pe_int (fun _ _ => rfl)) pe_int (fun _ _ => rfl)) (pa_cons (pe_op op_add (pe_ix (r := rIxT K) ix_tup (pe_ix (r := rIxL K) ix_list (pv 1) pe_int (fun _ _ => rfl)) pe_int (fun _ _ => rfl)) pe_int) pa_nil))) (pg_sub (pv 4) pe_int set_list)) (pss_cons (ps_expr (pe_bm PySem.F.plainAttrs_list PySem.F.slot_list_append PySem.F.type_list_append mt_append (pv 3) (pa_cons (pe_make (T.mkr 31 rfl) G_Record___init__ (hr.mono (by decide)) rfl (T.glo 5 rfl) b_Record___init__ .nil pass0 (pa_cons (pv 0) (pa_cons (pv 4) (pa_cons (pv 2) pa_nil)))) pa_nil))) (pss_cons (ps_expr (pe_bm PySem.F.plainAttrs_list PySem.F.slot_list_append PySem.F.type_list_append mt_append (pv 3) (pa_cons (pe_make (T.mkr 31 rfl) G_Record___init__ (hr.mono (by decide)) rfl (T.glo 5 rfl) b_Record___init__ .nil pass0 (pa_cons (pv 0) (pa_cons (pe_slice (r := rSlL K) sl_list (pv 1) po_none (po_some (pe_op op_sub (pe_callB (r := rLn K) call_len_seq (by rfl) (fr_len T) (by decide +kernel) (pa_cons (pv 1) pa_nil)) pe_int))) (pa_cons (pv 2) pa_nil)))) pa_nil))) (pss_cons (ps_expr (pe_bm PySem.F.plainAttrs_list PySem.F.slot_list_append PySem.F.type_list_append mt_append (pv 3) (pa_cons (pe_make (T.mkr 31 rfl) G_Record___init__ (hr.mono (by decide)) rfl (T.glo 5 rfl) b_Record___init__ .nil pass0 (pa_cons (pv 0) (pa_cons (pe_op op_cat (pe_lst (pa_cons (pe_tup (pa_cons pe_str (pa_cons (pe_ix (r := rIxT K) ix_tup (pe_ix (r := rIxL K) ix_list (pv 1) pe_int (fun _ _ => rfl)) pe_int (fun _ _ => rfl)) pa_nil))) pa_nil)) (pe_slice (r := rSlL K) sl_list (pv 1) (po_some pe_int) po_none)) (pa_cons (pv 2) pa_nil)))) pa_nil))) pss_nil))))) pss_nil) (Evl.pss_cut (ps_if (pt_cmpR op_gt (pe_callB (r := rLn K) call_len_seq (by rfl) (fr_len T) (by decide +kernel) (pa_cons (pv 1) pa_nil)) pe_int (nomark _)) (pss_cons (ps_expr (pe_bm PySem.F.plainAttrs_list PySem.F.slot_list_append PySem.F.type_list_append mt_append (pv 3) (pa_cons (pe_make (T.mkr 31 rfl) G_Record___init__ (hr.mono (by decide)) rfl (T.glo 5 rfl) b_Record___init__ .nil pass0 (pa_cons (pv 0) (pa_cons (pe_op op_cat (pe_slice (r := rSlL K) sl_list (pv 1) (po_some pe_int) po_none) (pe_slice (r := rSlL K) sl_list (pv 1) po_none (po_some pe_int))) (pa_cons (pv 2) pa_nil)))) pa_nil))) pss_nil) pss_nil) (pss_cons (ps_ret (pv 3)) pss_nil))))), ?_⟩
    obtain ⟨others_1169, hx1170, h⟩ := bindS h
    refine x_setL w0 (el_disp (eal_cons (e_makeS (ea_cons (e_var (R := rS) (x := owner0) rfl rfl) (ea_cons (e_var (R := (rL (rP rS rI))) (x := asks0) rfl hasks0) (ea_cons (e_op rr_add (e_var (R := rI) (x := result0) rfl rfl) e_int) ea_nil)))) (eal_cons (e_makeS (ea_cons (e_op rr_addS (e_var (R := rS) (x := owner0) rfl rfl) e_str) (ea_cons (e_var (R := (rL (rP rS rI))) (x := asks0) rfl hasks0) (ea_cons (e_var (R := rI) (x := result0) rfl rfl) ea_nil)))) eal_nil))) (by first | (simp only [be1, bs1, ba1] at hx1170 ⊢; exact hx1170) | exact hx1170) ?_
    intro p1173 H1171 G1174 n1175 w1172 e1176
    have h1177 := Rep.mono _ e1176 hasks0
    obtain ⟨a1179, hx1181, h⟩ := bindS h
    obtain ⟨others_1180, hx1182, h⟩ := bindS h
    obtain ⟨hs1183, rfl⟩ := appM_ok hx1182
    refine x_app (j := 0) w1172 rfl hs1183 rfl (e_makeS (ea_cons (e_var (R := rS) (x := owner0) rfl rfl) (ea_cons (EL.e (el_op rrl_cat (e_var (R := (rL (rP rS rI))) (x := asks0) rfl h1177) (EL.e (el_disp (eal_cons (e_pair e_str e_int) eal_nil))))) (ea_cons (e_var (R := rI) (x := result0) rfl rfl) ea_nil)))) (by first | (simp only [be1, bs1, ba1] at hx1181 ⊢; exact hx1181) | exact hx1181) ?_
    intro H1184 G1185 w1186 e1187
    have h1188 := Rep.mono _ e1187 h1177
    have w1186 : Wo G H [] G1185 H1184 [(p1173, cL (r_Record K) (others_1169 ++ [a1179]))] := w1186
    obtain ⟨s1262, hx1263, h⟩ := bindS h
    refine o_cut (fun σ' H' => ∃ u1264 : Option V, ∃ G' : Hp, Wo G H [] G' H' [(p1173, cL (r_Record K) s1262)] ∧ Evl.Ex G1185 G' ∧ σ' = [some (V.str owner0), some vasks0, some (V.int result0), some (V.ref p1173), u1264]) ?_ ?_
    · obtain ⟨b1189, hx1268, hx1263⟩ := bindS hx1263
      refine x_if w1186 (et_T (e_op rr_gt (e_cb rc_lenL (ea_cons (e_var (R := (rL (rP rS rI))) (x := asks0) rfl (Rep.mono _ w1186.ex h1188)) ea_nil)) e_int)) hx1268 ?_ ?_
      · intro hbb1189 H1269 w1270
        subst hbb1189
        have hx1263 := bifT hx1263
        obtain ⟨changed_1271, hx1272, hx1263⟩ := bindS hx1263
        refine x_setL w1270 (el_cb rc_listL (ea_cons (e_var (R := (rL (rP rS rI))) (x := asks0) rfl h1188) ea_nil)) hx1272 ?_
        intro p1275 H1273 G1276 n1277 w1274 e1278
        have h1279 := Rep.mono _ e1278 h1188
        obtain ⟨a1285, hx1288, hx1263⟩ := bindS hx1263
        obtain ⟨i1286, hx1289, hx1263⟩ := bindS hx1263
        obtain ⟨changed_1287, hx1290, hx1263⟩ := bindS hx1263
        refine x_setIx (j := 0) w1274 rfl rfl (e_pair (e_fst (e_op rr_ixL (e_var (R := (rL (rP rS rI))) (x := asks0) rfl h1279) e_int)) (e_op rr_add (e_snd (e_op rr_ixL (e_var (R := (rL (rP rS rI))) (x := asks0) rfl h1279) e_int)) e_int)) (by first | (simp only [be1, bs1, ba1] at hx1288 ⊢; exact hx1288) | exact hx1288) e_int (by first | (simp only [be1, bs1, ba1] at hx1289 ⊢; exact hx1289) | exact hx1289) hx1290 ?_
        intro H1291 G1292 w1293 e1294
        have h1295 := Rep.mono _ e1294 h1279
        have w1293 : Wo G H [] G1292 H1291 [(p1275, cL (rP rS rI) changed_1287), (p1173, cL (r_Record K) (others_1169 ++ [a1179]))] := w1293
        obtain ⟨G1296, w1297, e1298, h1299⟩ := w1293.freezeAt (i := 0) rfl n1277
        have h1300 := Rep.mono _ e1298 h1295
        have w1297 : Wo G H [] G1296 H1291 [(p1173, cL (r_Record K) (others_1169 ++ [a1179]))] := w1297
        obtain ⟨a1301, hx1303, hx1263⟩ := bindS hx1263
        obtain ⟨others_1302, hx1304, hx1263⟩ := bindS hx1263
        obtain ⟨hs1305, rfl⟩ := appM_ok hx1304
        refine x_app (j := 0) w1297 rfl hs1305 rfl (e_makeS (ea_cons (e_var (R := rS) (x := owner0) rfl rfl) (ea_cons (e_var (R := (rL (rP rS rI))) (x := changed_1287) rfl h1299) (ea_cons (e_var (R := rI) (x := result0) rfl rfl) ea_nil)))) (by first | (simp only [be1, bs1, ba1] at hx1303 ⊢; exact hx1303) | exact hx1303) ?_
        intro H1306 G1307 w1308 e1309
        have h1310 := Rep.mono _ e1309 h1300
        have h1311 := Rep.mono _ e1309 h1299
        have w1308 : Wo G H [] G1307 H1306 [(p1173, cL (r_Record K) ((others_1169 ++ [a1179]) ++ [a1301]))] := w1308
        obtain ⟨a1312, hx1314, hx1263⟩ := bindS hx1263
        obtain ⟨others_1313, hx1315, hx1263⟩ := bindS hx1263
        obtain ⟨hs1316, rfl⟩ := appM_ok hx1315
        refine x_app (j := 0) w1308 rfl hs1316 rfl (e_makeS (ea_cons (e_var (R := rS) (x := owner0) rfl rfl) (ea_cons (EL.e (el_slice (e_var (R := (rL (rP rS rI))) (x := asks0) rfl h1310) eo_no (eo_at (e_op rr_sub (e_cb rc_lenL (ea_cons (e_var (R := (rL (rP rS rI))) (x := asks0) rfl h1310) ea_nil)) e_int)))) (ea_cons (e_var (R := rI) (x := result0) rfl rfl) ea_nil)))) (by first | (simp only [be1, bs1, ba1] at hx1314 ⊢; exact hx1314) | exact hx1314) ?_
        intro H1317 G1318 w1319 e1320
        have h1321 := Rep.mono _ e1320 h1310
        have h1322 := Rep.mono _ e1320 h1311
        have w1319 : Wo G H [] G1318 H1317 [(p1173, cL (r_Record K) (((others_1169 ++ [a1179]) ++ [a1301]) ++ [a1312]))] := w1319
        obtain ⟨a1332, hx1334, hx1263⟩ := bindS hx1263
        obtain ⟨others_1333, hx1335, hx1263⟩ := bindS hx1263
        obtain ⟨hs1336, rfl⟩ := appM_ok hx1335
        refine x_app (j := 0) w1319 rfl hs1336 rfl (e_makeS (ea_cons (e_var (R := rS) (x := owner0) rfl rfl) (ea_cons (EL.e (el_op rrl_cat (EL.e (el_disp (eal_cons (e_pair e_str (e_snd (e_op rr_ixL (e_var (R := (rL (rP rS rI))) (x := asks0) rfl h1321) e_int))) eal_nil))) (EL.e (el_slice (e_var (R := (rL (rP rS rI))) (x := asks0) rfl h1321) (eo_at e_int) eo_no)))) (ea_cons (e_var (R := rI) (x := result0) rfl rfl) ea_nil)))) (by first | (simp only [be1, bs1, ba1] at hx1334 ⊢; exact hx1334) | exact hx1334) ?_
        intro H1337 G1338 w1339 e1340
        have h1341 := Rep.mono _ e1340 h1321
        have h1342 := Rep.mono _ e1340 h1322
        have w1339 : Wo G H [] G1338 H1337 [(p1173, cL (r_Record K) ((((others_1169 ++ [a1179]) ++ [a1301]) ++ [a1312]) ++ [a1332]))] := w1339
        refine x_next ?_
        have hx1263 : ((((others_1169 ++ [a1179]) ++ [a1301]) ++ [a1312]) ++ [a1332]) = s1262 := Option.some.inj hx1263
        subst hx1263
        exact ⟨(some (V.ref p1275)), G1338, w1339, (((((e1278.trans e1294).trans e1298).trans e1309).trans e1320).trans e1340), rfl⟩
      · intro hbb1189 H1343 w1344
        subst hbb1189
        have hx1263 := bifF hx1263
        refine x_next ?_
        have hx1263 : (others_1169 ++ [a1179]) = s1262 := Option.some.inj hx1263
        subst hx1263
        exact ⟨(none), G1185, w1344, (Evl.Ex.refl _), rfl⟩
    · rintro σ' H1347 ⟨u1264, G1345, w1266, e1265, rfl⟩
      have h1346 := Rep.mono _ e1265 h1188
      obtain ⟨s1360, hx1361, h⟩ := bindS h
      refine o_cut (fun σ' H' => ∃ G' : Hp, Wo G H [] G' H' [(p1173, cL (r_Record K) s1360)] ∧ Evl.Ex G1345 G' ∧ σ' = [some (V.str owner0), some vasks0, some (V.int result0), some (V.ref p1173), u1264]) ?_ ?_
      · obtain ⟨b1348, hx1365, hx1361⟩ := bindS hx1361
        refine x_if w1266 (et_T (e_op rr_gt (e_cb rc_lenL (ea_cons (e_var (R := (rL (rP rS rI))) (x := asks0) rfl (Rep.mono _ w1266.ex h1346)) ea_nil)) e_int)) hx1365 ?_ ?_
        · intro hbb1348 H1366 w1367
          subst hbb1348
          have hx1361 := bifT hx1361
          obtain ⟨a1369, hx1371, hx1361⟩ := bindS hx1361
          obtain ⟨others_1370, hx1372, hx1361⟩ := bindS hx1361
          obtain ⟨hs1373, rfl⟩ := appM_ok hx1372
          refine x_app (j := 0) w1367 rfl hs1373 rfl (e_makeS (ea_cons (e_var (R := rS) (x := owner0) rfl rfl) (ea_cons (EL.e (el_op rrl_cat (EL.e (el_slice (e_var (R := (rL (rP rS rI))) (x := asks0) rfl h1346) (eo_at e_int) eo_no)) (EL.e (el_slice (e_var (R := (rL (rP rS rI))) (x := asks0) rfl h1346) eo_no (eo_at e_int))))) (ea_cons (e_var (R := rI) (x := result0) rfl rfl) ea_nil)))) (by first | (simp only [be1, bs1, ba1] at hx1371 ⊢; exact hx1371) | exact hx1371) ?_
          intro H1374 G1375 w1376 e1377
          have h1378 := Rep.mono _ e1377 h1346
          have w1376 : Wo G H [] G1375 H1374 [(p1173, cL (r_Record K) (s1262 ++ [a1369]))] := w1376
          refine x_next ?_
          have hx1361 : (s1262 ++ [a1369]) = s1360 := Option.some.inj hx1361
          subst hx1361
          exact ⟨G1375, w1376, e1377, rfl⟩
        · intro hbb1348 H1379 w1380
          subst hbb1348
          have hx1361 := bifF hx1361
          refine x_next ?_
          have hx1361 : s1262 = s1360 := Option.some.inj hx1361
          subst hx1361
          exact ⟨G1345, w1380, (Evl.Ex.refl _), rfl⟩
      · rintro σ' H1383 ⟨G1381, w1363, e1362, rfl⟩
        have h1382 := Rep.mono _ e1362 h1346
        have h : s1360 = r := Option.some.inj h
        subst h
        refine x_retO (o_var rfl ?_)
        exact k _ _ _ n1175 w1363.upE (w1363.sub1 (i := 0) rfl)
def m__law_repeated_b1 (x1408 : (Str × Int)) (s1398 : (List Str)) : Option (Stp (List Str) (Option Str)) :=
  (some (s1398.any fun z => z == x1408.1) >>= fun b1416 => bif b1416 then (some (some x1408.1) >>= fun a1420 => some (Stp.rt a1420)) else (some x1408.1 >>= fun a1424 => appM s1398 a1424 >>= fun names_here_1425 => some (Stp.nx names_here_1425)))
def m__law_repeated (asks0 : (List (Str × Int))) : Option (Option Str) :=
  (some ([]) >>= fun names_here_1384 => (some asks0 >>= fun xs1393 => forL (m__law_repeated_b1) xs1393 names_here_1384 >>= Sum.elim (fun s1398 => (some (none : (Option Str)) >>= fun a1442 => some a1442)) (fun r => some r)))
theorem sc__law_repeated : FnScope ["_law_asks", "_law_names_here", "_law_pair"] ["_law_asks"] (defScope s__law_repeated) := ⟨rfl, rfl, rfl, by decide +kernel, rfl, by decide +kernel, by decide +kernel⟩
theorem ok__law_repeated (T : Tx K mg) : Fk P w K mg base CX0 1 "_law_repeated" ["_law_asks"] (PF (aC (rL (rP rS rI)) aN) (rO rS) (fun i => m__law_repeated i.1)) := by
  obtain ⟨fd, F⟩ := T.def_ 13 rfl
  have nd := sc__law_repeated.nd
  refine fk_mk T.toTx (x := "_law_repeated") (T.glo 14 rfl) F (fun _ _ _ _ _ _ us hl => match us, hl with | [_], _ => rfl) (F.ok sc__law_repeated (fun vs H Q E h => ?_) (fun cdv A outer s H vs Q E hr h => ?_))
  · obtain ⟨G, ⟨asks0, ⟨⟩⟩, r, e0, ⟨vasks0, _, rfl, hasks0, rfl⟩, h, k⟩ := h
    rfl
  · obtain ⟨G, ⟨asks0, ⟨⟩⟩, r, e0, ⟨vasks0, _, rfl, hasks0, rfl⟩, h, k⟩ := h
    have w0 := Wo.start e0
    have h : m__law_repeated asks0 = some r := h
    unfold m__law_repeated at h
    refine ⟨_, PSs.nox (pss_cons (ps_set (i := 1) nd rfl (Or.inl rfl) (pe_lst pa_nil)) (pss_cons (ps_for PassesOwn.never rfl (pi_list (pv 0)) (pg_name (i := 2) nd rfl (Or.inl rfl)) (pss_cons (ps_if (pt_cmpR (r := rIn K false) op_in_seq (pe_ix (r := rIxT K) ix_tup (pv 2) pe_int (fun _ _ => rfl)) (pv 1) (by rfl)) (pss_cons (ps_ret (pe_ix (r := rIxT K) ix_tup (pv 2) pe_int (fun _ _ => rfl))) pss_nil) pss_nil) (pss_cons (ps_expr (pe_bm PySem.F.plainAttrs_list PySem.F.slot_list_append PySem.F.type_list_append mt_append (pv 1) (pa_cons (pe_ix (r := rIxT K) ix_tup (pv 2) pe_int (fun _ _ => rfl)) pa_nil))) pss_nil))) (pss_cons (ps_ret pe_non) pss_nil))), ?_⟩
    obtain ⟨names_here_1384, hx1385, h⟩ := bindS h
    refine x_setL w0 (el_disp (R := rS) eal_nil) hx1385 ?_
    intro p1388 H1386 G1389 n1390 w1387 e1391
    have h1392 := Rep.mono _ e1391 hasks0
    obtain ⟨xs1393, hx1394, h⟩ := bindS h
    obtain ⟨t1396, hx1397, h⟩ := bindS h
    refine x_forL w1387 (e_var (R := (rL (rP rS rI))) (x := asks0) rfl h1392) hx1394 (fun i G' H' σ' => ∃ s1398 : (List Str), ∃ u1399 : Option V, Wo G H [] G' H' [(p1388, cL rS s1398)] ∧ Evl.Ex G1389 G' ∧ σ' = [some vasks0, some (V.ref p1388), u1399] ∧ forL (m__law_repeated_b1) (xs1393.drop i) s1398 = some t1396) (fun _ _ _ _ ⟨_, _, w, _⟩ => w.ex) ?_ ?_ ?_
    · intro G' H' w' e'
      exact ⟨names_here_1384, (none), w', e', rfl, hx1397⟩
    · rintro G1410 e1411 i1407 x1408 v1412 σ' G1403 H1406 hx1409 e1414 ⟨s1398, u1399, w1404, e1405, rfl, hm1401⟩ r1413
      obtain ⟨q1402, hb1400, hm1401⟩ := forL_at hx1409 hm1401
      have h1415 := Rep.mono _ e1405 h1392
      refine g_name ?_
      unfold m__law_repeated_b1 at hb1400
      obtain ⟨b1416, hx1417, hb1400⟩ := bindS hb1400
      refine x_if w1404 (et_T (e_op (rr_inL flS) (e_fst (e_var (R := (rP rS rI)) (x := x1408) rfl (Rep.mono _ w1404.ex r1413))) (e_var (R := (rL rS)) (x := s1398) rfl (w1404.rlAt (i := 0) rfl)))) hx1417 ?_ ?_
      · intro hbb1416 H1418 w1419
        subst hbb1416
        have hb1400 := bifT hb1400
        obtain ⟨a1420, hx1421, hb1400⟩ := bindS hb1400
        have hb1400 : some (Stp.rt a1420) = some q1402 := hb1400
        cases hb1400
        have hm1401 : some (Sum.inr a1420) = some t1396 := hm1401
        cases hm1401
        have h : a1420 = r := Option.some.inj h
        subst h
        exact x_ret w1419 (e_some (e_fst (e_var (R := (rP rS rI)) (x := x1408) rfl r1413))) hx1421 (fun v9 H9 G9 w9 e9 r9 => k v9 H9 G9 w9.upE r9)
      · intro hbb1416 H1422 w1423
        subst hbb1416
        have hb1400 := bifF hb1400
        refine x_next ?_
        obtain ⟨a1424, hx1426, hb1400⟩ := bindS hb1400
        obtain ⟨names_here_1425, hx1427, hb1400⟩ := bindS hb1400
        obtain ⟨hs1428, rfl⟩ := appM_ok hx1427
        refine x_app (j := 0) w1423 rfl hs1428 rfl (e_fst (e_var (R := (rP rS rI)) (x := x1408) rfl r1413)) hx1426 ?_
        intro H1429 G1430 w1431 e1432
        have h1433 := Rep.mono _ e1432 h1415
        have h1434 := Rep.mono _ e1432 r1413
        have w1431 : Wo G H [] G1430 H1429 [(p1388, cL rS (s1398 ++ [a1424]))] := w1431
        refine x_next ?_
        have hb1400 : Stp.nx (s1398 ++ [a1424]) = q1402 := Option.some.inj hb1400
        subst hb1400
        exact ⟨G1430, (e1414.trans e1432), (s1398 ++ [a1424]), (some v1412), w1431, (e1405.trans e1432), rfl, hm1401⟩
    · rintro σ' G1435 H1438 e1439 ⟨s1398, u1399, w1436, e1437, rfl, hm1401⟩
      have hm1401 := forL_end hm1401
      subst hm1401
      have h := elimL h
      have h1441 := Rep.mono _ e1437 h1392
      obtain ⟨a1442, hx1443, h⟩ := bindS h
      have h : a1442 = r := Option.some.inj h
      subst h
      exact x_ret w1436 (e_none (R := rS)) hx1443 (fun v9 H9 G9 w9 e9 r9 => k v9 H9 G9 w9.upE r9)
def m__law_twice_refused (owner0 : Str) (asks0 : (List (Str × Int))) (result0 : Int) : Option PyData :=
  (some PyData.none >>= fun caught_1444 => ((m_Record___init___X owner0 asks0 result0 >>= fun r1497 => Sum.elim (fun e1499 => (bif (["AskedTwice"] : List Str).contains e1499.cls then ((((xS e1499 "name" >>= fun t1511 => some (PyData.str t1511)) >>= fun t1512 => some ([t1512, (PyData.bool ((["AskedTwice"] : List Str).contains e1499.cls)), (PyData.bool (([] : List Str).contains e1499.cls)), (PyData.bool (([] : List Str).contains e1499.cls))])) >>= fun t1513 => (toDM (PyData.list t1513))) >>= fun caught_1514 => some caught_1514) else none)) (fun x1525 => some caught_1444) r1497) >>= fun s1490 => (some s1490 >>= fun a1536 => some a1536)))
theorem sc__law_twice_refused : FnScope ["_law_owner", "_law_asks", "_law_result", "_law_caught", "e"] ["_law_owner", "_law_asks", "_law_result"] (defScope s__law_twice_refused) := ⟨rfl, rfl, rfl, by decide +kernel, rfl, by decide +kernel, by decide +kernel⟩
theorem ok__law_twice_refused (T : Tx K mg) : Fk P w K mg base CX0 5 "_law_twice_refused" ["_law_owner", "_law_asks", "_law_result"] (PF (aC rS (aC (rL (rP rS rI)) (aC rI aN))) (rD K) (fun i => m__law_twice_refused i.1 i.2.1 i.2.2.1)) := by
  obtain ⟨fd_Record___init___X, G_Record___init___X, b_Record___init___X⟩ := ok_Record___init___X (w := w) (base := base) T
  obtain ⟨fd, F⟩ := T.def_ 14 rfl
  have nd := sc__law_twice_refused.nd
  refine fk_mk T.toTx (x := "_law_twice_refused") (T.glo 15 rfl) F (fun _ _ _ _ _ _ us hl => match us, hl with | [_, _, _], _ => rfl) (F.ok sc__law_twice_refused (fun vs H Q E h => ?_) (fun cdv A outer s H vs Q E hr h => ?_))
  · obtain ⟨G, ⟨owner0, asks0, result0, ⟨⟩⟩, r, e0, ⟨vowner0, _, rfl, howner0, vasks0, _, rfl, hasks0, vresult0, _, rfl, hresult0, rfl⟩, h, k⟩ := h
    rfl
  · obtain ⟨G, ⟨owner0, asks0, result0, ⟨⟩⟩, r, e0, ⟨vowner0, _, rfl, howner0, vasks0, _, rfl, hasks0, vresult0, _, rfl, hresult0, rfl⟩, h, k⟩ := h
    cases howner0
    cases hresult0
    have w0 := Wo.start e0
    have h : m__law_twice_refused owner0 asks0 result0 = some r := h
    unfold m__law_twice_refused at h
    refine ⟨_, PSs.nox (pss_cons (ps_set (i := 3) nd rfl (Or.inl rfl) pe_non) (Evl.pss_cut (ps_tryA nd rfl rfl takes_no (fun _ _ _ tk1453 po1453 => (pss_cons (ps_expr (pe_makeT (T.mkr 31 rfl) G_Record___init___X (hr.mono (by decide)) rfl (T.glo 5 rfl) b_Record___init___X (passAt tk1453) (pa_cons (pv 0) (pa_cons (pv 1) (pa_cons (pv 2) pa_nil))))) pss_nil)) (HdsA.as_ (i := 4) ⟨by rfl, by decide, Or.inl (T.glo 2 rfl)⟩ rfl rfl (fun a11453_0 oe1453_0 cls1453_0 d1453_0 pn1453_0 z1453_0 f1453_0 => (pss_cons (ps_set (i := 3) nd rfl (Or.inl rfl) (pe_lst (pa_cons (pe_xz z1453_0 f1453_0 (pv 4)) (pa_cons (pe_callB (r := rIsZ K cls1453_0 d1453_0 a11453_0) (call_isZ z1453_0 f1453_0) (by rfl) (fr_isinstance T) (by decide +kernel) (pa_cons (pv 4) (pa_cons (pe_glob (v := .ref (He.ga K "AskedError")) (by rfl) (T.glo 1 rfl) rfl) pa_nil))) (pa_cons (pe_callB (r := rIsZ K cls1453_0 d1453_0 a11453_0) (call_isZ z1453_0 f1453_0) (by rfl) (fr_isinstance T) (by decide +kernel) (pa_cons (pv 4) (pa_cons (pe_glob (v := .ref (He.ga K "NoSide")) (by rfl) (T.glo 4 rfl) rfl) pa_nil))) (pa_cons (pe_callB (r := rIsZ K cls1453_0 d1453_0 a11453_0) (call_isZ z1453_0 f1453_0) (by rfl) (fr_isinstance T) (by decide +kernel) (pa_cons (pv 4) (pa_cons (pe_glob (v := .ref (He.ga K "Unanswered")) (by rfl) (T.glo 3 rfl) rfl) pa_nil))) pa_nil)))))) pss_nil)) HdsA.nil)) (pss_cons (ps_ret (pv 3)) pss_nil))), ?_⟩
    obtain ⟨caught_1444, hx1445, h⟩ := bindS h
    refine x_set w0 (e_nonD (K := K)) hx1445 ?_
    intro v1448 H1446 G1449 w1447 e1450 h1451
    have h1452 := Rep.mono _ e1450 hasks0
    obtain ⟨s1490, hx1491, h⟩ := bindS h
    refine o_cut (fun σ' H' => ∃ v1492 : V, ∃ u1494 : Option V, ∃ G' : Hp, Wo G H [] G' H' [] ∧ Evl.Ex G1449 G' ∧ σ' = [some (V.str owner0), some vasks0, some (V.int result0), some v1492, u1494] ∧ (rD K).r G' v1492 s1490) ?_ ?_
    · refine o_try ?_
      obtain ⟨r1497, hx1498, hx1491⟩ := bindS hx1491
      refine x_callX w1447 (ex_makeS (ea_cons (e_var (R := rS) (x := owner0) rfl rfl) (ea_cons (e_var (R := (rL (rP rS rI))) (x := asks0) rfl h1452) (ea_cons (e_var (R := rI) (x := result0) rfl rfl) ea_nil)))) (by first | (simp only [be1, bs1, ba1] at hx1498 ⊢; exact hx1498) | exact hx1498) ?_ ?_
      · intro e1499 he1500 d1501 H1502 G1503 w1504 e1505 xa1506
        subst he1500
        have hx1491 := sumL hx1491
        have h1507 := Rep.mono _ e1505 h1452
        have h1508 := Rep.mono _ e1505 h1451
        rcases bifO hx1491 with ⟨hc1509, hx1491⟩ | ⟨_, hx1491⟩
        · refine ⟨true, xa_ok (T.mo 14 rfl) hc1509, fun _ ax1510 naax1510 => ?_, fun z => nomatch z⟩
          obtain ⟨caught_1514, hx1515, hx1491⟩ := bindS hx1491
          refine x_set w1504 (e_toDL (K := K) (EL.e (el_disp (eal_cons (e_toD (K := K) (e_xzS (a := ax1510) rfl xa1506 (xs_ok (T.mo 9 rfl) hc1509).2 (xn_ok (T.mo 10 rfl) hc1509 (by decide))) dtS (by decide)) (eal_cons (e_toD (K := K) (e_isZ rfl xa1506 (xs_ok (T.mo 9 rfl) hc1509).1 (fun _ h => h) (xk_ok (T.mo 11 rfl) hc1509)) dtB (by decide)) (eal_cons (e_toD (K := K) (e_isZ rfl xa1506 (xs_ok (T.mo 9 rfl) hc1509).1 (fun _ h => h) (xk_ok (T.mo 12 rfl) hc1509)) dtB (by decide)) (eal_cons (e_toD (K := K) (e_isZ rfl xa1506 (xs_ok (T.mo 9 rfl) hc1509).1 (fun _ h => h) (xk_ok (T.mo 13 rfl) hc1509)) dtB (by decide)) eal_nil))))))) (by first | (simp only [be1, bs1, ba1] at hx1515 ⊢; exact hx1515) | exact hx1515) ?_
          intro v1518 H1516 G1519 w1517 e1520 h1521
          have h1522 := Rep.mono _ e1520 h1507
          have h1523 := Rep.mono _ e1520 h1508
          have xa1524 := Xat.mono e1520 xa1506
          refine x_next ?_
          have hx1491 : caught_1514 = s1490 := Option.some.inj hx1491
          subst hx1491
          exact ⟨v1518, (none), G1519, w1517, (e1505.trans e1520), rfl, h1521⟩
        · cases hx1491
      · intro x1525 he1526 H1527 G1528 w1529 e1530
        subst he1526
        have hx1491 := sumR hx1491
        have h1531 := Rep.mono _ e1530 h1452
        have h1532 := Rep.mono _ e1530 h1451
        refine x_next ?_
        have hx1491 : caught_1444 = s1490 := Option.some.inj hx1491
        subst hx1491
        exact ⟨v1448, (none), G1528, w1529, e1530, rfl, h1532⟩
    · rintro σ' H1534 ⟨v1492, u1494, G1533, w1496, e1495, rfl, h1493⟩
      have h1535 := Rep.mono _ e1495 h1452
      obtain ⟨a1536, hx1537, h⟩ := bindS h
      have h : a1536 = r := Option.some.inj h
      subst h
      exact x_ret w1496 (e_var (R := (rD K)) (x := s1490) rfl h1493) hx1537 (fun v9 H9 G9 w9 e9 r9 => k v9 H9 G9 w9.upE r9)
def m_law_b1 (x1680 : Int) (s1669 : ((List (Str × Int)) × ((List Int) × (List Str)))) : Option ((List (Str × Int)) × ((List Int) × (List Str))) :=
  (some (s1669.2.2.length : Int) >>= fun x1684 => (m__law_draw s1669.2.1 x1684 >>= fun x1689 => (popAtM s1669.2.2 x1689.1 >>= fun x1700 => (some x1700.1 >>= fun x1706 => (m__law_any_value x1689.2  >>= fun x1711 => (appM s1669.1 (x1706, x1711.1) >>= fun asks_1731 => some ((asks_1731, (x1711.2, x1700.2)))))))))
def m_law_b2 (s1828 : ((List Int) × m_Record)) (x1969 : m_Record) (s1959 : Unit) : Option (Stp Unit Bool) :=
  ((orO ((m_Record___eq__ s1828.2 x1969 >>= fun t1981 => some (!(t1981 == false)))) ((m_Record___eq__ x1969 s1828.2 >>= fun t1982 => some (!(t1982 == false))))) >>= fun b1983 => bif b1983 then (some false >>= fun a1987 => some (Stp.rt a1987)) else some (Stp.nx ()))
def m_law_b3 (x2139 : Int) (s2129 : ((List Int) × (List (Str × Int)))) : Option ((List Int) × (List (Str × Int))) :=
  (some ((s2129.2.length : Int) + (1 : Int)) >>= fun x2146 => (m__law_draw s2129.1 x2146 >>= fun x2151 => (some (s2129.2.length : Int) >>= fun x2165 => (m__law_draw x2151.2 x2165 >>= fun x2170 => (atI s2129.2 x2170.1 >>= fun x2183 => (some (0 : Int) >>= fun x2188 => ((bif x2188 == 0 then some x2183.1 else none) >>= fun x2192 => (m__law_any_value x2170.2  >>= fun x2207 => (insM s2129.2 x2151.1 (x2192, x2207.1) >>= fun spoilt_2235 => some ((x2207.2, spoilt_2235)))))))))))
def m_law (script0 : (List Int)) : Option Bool :=
  (m__law_pot script0 >>= fun pot_here_1538 => (some (1 : Int) >>= fun x1547 => (some (5 : Int) >>= fun x1552 => (m__law_draw pot_here_1538 x1552 >>= fun x1557 => (some (x1547 + x1557.1) >>= fun x1566 => (m__law_names x1557.2 x1566 >>= fun x1576 => (some x1576.1 >>= fun x1590 => (some (x1576.1.length : Int) >>= fun x1601 => (m__law_draw x1576.2 x1601 >>= fun x1606 => (atI x1590 x1606.1 >>= fun x1617 => (some x1576.1 >>= fun rest_1628 => (some ([]) >>= fun asks_1638 => (some ((x1576.1.length : Int) + (1 : Int)) >>= fun x1648 => (m__law_draw x1606.2 x1648 >>= fun x1653 => (rngM 0 x1653.1 >>= fun xs1664 => forS (m_law_b1) xs1664 (asks_1638, (x1653.2, rest_1628)) >>= fun s1669 => (m__law_any_value s1669.2.1  >>= fun x1744 => (some s1669.1 >>= fun handed_1760 => (m_Record___init___C x1617 handed_1760 x1744.1 >>= fun record_1771 => ((some (3 : Int) >>= fun x1834 => (m__law_draw x1744.2 x1834 >>= fun x1839 => (some (1 : Int) >>= fun x1852 => (some (x1839.1 == x1852) >>= fun x1856 => (bif x1856 then (m_Record___init___T x1617 s1669.1 x1744.1 >>= fun record_1868 => some (x1839.2, record_1868)) else some (x1839.2, record_1771)))))) >>= fun s1828 => ((orO ((m__law_record_kept s1828.2 x1576.1 x1617 s1669.1 x1744.1 >>= fun t1887 => some (!t1887))) (some (!decide (handed_1760 = s1669.1)))) >>= fun b1888 => bif b1888 then (some false >>= fun a1892 => some a1892) else (some (("stranger10" : Str), (1 : Int)) >>= fun a1896 => appM handed_1760 a1896 >>= fun handed_1897 => (some (("stranger11" : Str), (2 : Int)) >>= fun a1909 => some (0 : Int) >>= fun i1910 => setM handed_1897 i1910 a1909 >>= fun handed_1911 => ((m__law_record_kept s1828.2 x1576.1 x1617 s1669.1 x1744.1 >>= fun t1923 => some (!t1923)) >>= fun b1924 => bif b1924 then (some false >>= fun a1928 => some a1928) else (m_Record___init___T x1617 s1669.1 x1744.1 >>= fun twin_1932 => ((orO ((m_Record___eq__ twin_1932 s1828.2 >>= fun t1944 => some (!(t1944 == true)))) ((m_Record___eq__ s1828.2 twin_1932 >>= fun t1945 => some (!(t1945 == true))))) >>= fun b1946 => bif b1946 then (some false >>= fun a1950 => some a1950) else (m__law_unlike x1617 s1669.1 x1744.1 >>= fun xs1954 => forL (m_law_b2 s1828) xs1954 () >>= Sum.elim (fun s1959 => ((((m_Record_written s1828.2 >>= fun t2002 => m_Record___eq___S s1828.2 t2002) >>= fun t2003 => (m_Record___eq___T s1828.2 ([(PyData.str x1617), (PyData.tuple (List.map (fun p => PyData.tuple [PyData.str p.1, PyData.int p.2]) s1669.1)), (PyData.int x1744.1)]) >>= fun t2004 => (m_Record___eq___I s1828.2 x1744.1 >>= fun t2005 => some ([t2003, t2004, t2005])))) >>= fun t2006 => some (!decide (t2006 = ([false, false, false])))) >>= fun b2007 => bif b2007 then (some false >>= fun a2011 => some a2011) else ((((atI x1576.1 (0 : Int) >>= fun t2015 => some (t2015, (0 : Int))) >>= fun t2016 => some ([t2016])) >>= fun t2017 => catM s1669.1 t2017) >>= fun spoilt_2018 => ((some ((s1669.1.length : Int) == (0 : Int)) >>= fun b2031 => bif b2031 then (((atI x1576.1 (0 : Int) >>= fun t2060 => some (t2060, (0 : Int))) >>= fun t2062 => ((atI x1576.1 (0 : Int) >>= fun t2061 => some (t2061, (0 : Int))) >>= fun t2063 => some ([t2062, t2063]))) >>= fun spoilt_2064 => some spoilt_2064) else some spoilt_2018) >>= fun s2050 => (some (1 : Int) >>= fun x2087 => (some (2 : Int) >>= fun x2092 => (m__law_draw s1828.1 x2092 >>= fun x2097 => (some (x2087 + x2097.1) >>= fun x2110 => (rngM 0 x2110 >>= fun xs2124 => forS (m_law_b3) xs2124 (x2097.2, s2050) >>= fun s2129 => ((m__law_twice_refused x1617 s2129.2 x1744.1 >>= fun t2261 => ((((m__law_repeated s2129.2 >>= fun t2258 => some ((dO PyData.str) t2258)) >>= fun t2259 => some ([t2259, (PyData.bool true), (PyData.bool false), (PyData.bool false)])) >>= fun t2260 => (toDM (PyData.list t2260))) >>= fun t2262 => some (PyData.eqv t2261 t2262))) >>= fun a2263 => some a2263)))))))))) (fun r => some r)))))))))))))))))))))))))))
theorem sc_law : FnScope ["_law_script", "_law_pot_here", "_law_names_here", "_law_owner", "_law_rest", "_law_asks", "_law_k", "_law_result", "_law_handed", "_law_record", "_law_twin", "_law_other", "_law_spoilt", "_law_name"] ["_law_script"] (defScope s_law) := ⟨rfl, rfl, rfl, by decide +kernel, rfl, by decide +kernel, by decide +kernel⟩
theorem ok_law (T : Tx K mg) : ∃ fd, FunD K "law" "law" (defArgs s_law) (defBody s_law) (defScope s_law) [] [] (He.ga K "law") fd ∧ ∀ base : Heap, FnOk P w K mg base CX0 6 (He.ga K "law") fd ["_law_script"] (PF (aC (rScr K) aN) rB (fun i => m_law i.1)) := by
  obtain ⟨fd, F⟩ := T.def_ 15 rfl
  refine ⟨fd, F, fun base => ?_⟩
  obtain ⟨fd__law_pot, G__law_pot, b__law_pot, k__law_pot, g__law_pot⟩ := ok__law_pot (w := w) (base := base) T
  obtain ⟨fd__law_names, G__law_names, b__law_names, k__law_names, g__law_names⟩ := ok__law_names (w := w) (base := base) T
  obtain ⟨fd__law_draw, G__law_draw, b__law_draw, k__law_draw, g__law_draw⟩ := ok__law_draw (w := w) (base := base) T
  obtain ⟨fd__law_any_value, G__law_any_value, b__law_any_value, k__law_any_value, g__law_any_value⟩ := ok__law_any_value (w := w) (base := base) T
  obtain ⟨fd_Record___init___C, G_Record___init___C, b_Record___init___C⟩ := ok_Record___init___C (w := w) (base := base) T
  obtain ⟨fd_Record___init___T, G_Record___init___T, b_Record___init___T⟩ := ok_Record___init___T (w := w) (base := base) T
  obtain ⟨fd__law_record_kept, G__law_record_kept, b__law_record_kept, k__law_record_kept, g__law_record_kept⟩ := ok__law_record_kept (w := w) (base := base) T
  obtain ⟨fd_Record___eq__, G_Record___eq__, b_Record___eq__⟩ := ok_Record___eq__ (w := w) (base := base) T
  obtain ⟨fd__law_unlike, G__law_unlike, b__law_unlike, k__law_unlike, g__law_unlike⟩ := ok__law_unlike (w := w) (base := base) T
  obtain ⟨fd_Record_written, G_Record_written, b_Record_written⟩ := ok_Record_written (w := w) (base := base) T
  obtain ⟨fd_Record___eq___S, G_Record___eq___S, b_Record___eq___S⟩ := ok_Record___eq___S (w := w) (base := base) T
  obtain ⟨fd_Record___eq___T, G_Record___eq___T, b_Record___eq___T⟩ := ok_Record___eq___T (w := w) (base := base) T
  obtain ⟨fd_Record___eq___I, G_Record___eq___I, b_Record___eq___I⟩ := ok_Record___eq___I (w := w) (base := base) T
  obtain ⟨fd__law_twice_refused, G__law_twice_refused, b__law_twice_refused, k__law_twice_refused, g__law_twice_refused⟩ := ok__law_twice_refused (w := w) (base := base) T
  obtain ⟨fd__law_repeated, G__law_repeated, b__law_repeated, k__law_repeated, g__law_repeated⟩ := ok__law_repeated (w := w) (base := base) T
  have nd := sc_law.nd
  refine (F.ok sc_law (fun vs H Q E h => ?_) (fun cdv A outer s H vs Q E hr h => ?_))
  · obtain ⟨G, ⟨script0, ⟨⟩⟩, r, e0, ⟨vscript0, _, rfl, hscript0, rfl⟩, h, k⟩ := h
    rfl
  · obtain ⟨G, ⟨script0, ⟨⟩⟩, r, e0, ⟨vscript0, _, rfl, hscript0, rfl⟩, h, k⟩ := h
    have w0 := Wo.start e0
    have h : m_law script0 = some r := h
    unfold m_law at h
    refine ⟨_, PSs.nox (pss_cons (ps_set (i := 1) nd rfl (Or.inl rfl) (pe_call G__law_pot (hr.mono (by decide)) rfl g__law_pot k__law_pot b__law_pot .nil pass0 (pa_cons (pv 0) pa_nil))) (pss_cons (ps_set (i := 2) nd rfl (Or.inl rfl) (pe_call G__law_names (hr.mono (by decide)) rfl g__law_names k__law_names b__law_names .nil pass0 (pa_cons (pv 1) (pa_cons (pe_op op_add pe_int (pe_call G__law_draw (hr.mono (by decide)) rfl g__law_draw k__law_draw b__law_draw .nil pass0 (pa_cons (pv 1) (pa_cons pe_int pa_nil)))) pa_nil)))) (pss_cons (ps_set (i := 3) nd rfl (Or.inl rfl) (pe_ix (r := rIxL K) ix_list (pv 2) (pe_call G__law_draw (hr.mono (by decide)) rfl g__law_draw k__law_draw b__law_draw .nil pass0 (pa_cons (pv 1) (pa_cons (pe_callB (r := rLn K) call_len_seq (by rfl) (fr_len T) (by decide +kernel) (pa_cons (pv 2) pa_nil)) pa_nil))) (fun _ _ => rfl))) (pss_cons (ps_set (i := 4) nd rfl (Or.inl rfl) (pe_callTy (r := rLs K) call_list_of (by rfl) (fr_list T) (by decide +kernel) (pa_cons (pv 2) pa_nil))) (pss_cons (ps_set (i := 5) nd rfl (Or.inl rfl) (pe_lst pa_nil)) (pss_cons (ps_for PassesOwn.never rfl (pi_range1 (by rfl) (fr_range T) (pa_cons (pe_call G__law_draw (hr.mono (by decide)) rfl g__law_draw k__law_draw b__law_draw .nil pass0 (pa_cons (pv 1) (pa_cons (pe_op op_add (pe_callB (r := rLn K) call_len_seq (by rfl) (fr_len T) (by decide +kernel) (pa_cons (pv 2) pa_nil)) pe_int) pa_nil))) pa_nil)) (pg_name (i := 6) nd rfl (Or.inl rfl)) (pss_cons (ps_set (i := 13) nd rfl (Or.inl rfl) (pe_bm PySem.F.plainAttrs_list PySem.F.slot_list_pop PySem.F.type_list_pop mt_popAt (pv 4) (pa_cons (pe_call G__law_draw (hr.mono (by decide)) rfl g__law_draw k__law_draw b__law_draw .nil pass0 (pa_cons (pv 1) (pa_cons (pe_callB (r := rLn K) call_len_seq (by rfl) (fr_len T) (by decide +kernel) (pa_cons (pv 4) pa_nil)) pa_nil))) pa_nil))) (pss_cons (ps_expr (pe_bm PySem.F.plainAttrs_list PySem.F.slot_list_append PySem.F.type_list_append mt_append (pv 5) (pa_cons (pe_tup (pa_cons (pv 13) (pa_cons (pe_call G__law_any_value (hr.mono (by decide)) rfl g__law_any_value k__law_any_value b__law_any_value .nil pass0 (pa_cons (pv 1) pa_nil)) pa_nil))) pa_nil))) pss_nil))) (pss_cons (ps_set (i := 7) nd rfl (Or.inl rfl) (pe_call G__law_any_value (hr.mono (by decide)) rfl g__law_any_value k__law_any_value b__law_any_value .nil pass0 (pa_cons (pv 1) pa_nil))) (pss_cons (ps_set (i := 8) nd rfl (Or.inl rfl) (pe_callTy (r := rLs K) call_list_of (by rfl) (fr_list T) (by decide +kernel) (pa_cons (pv 5) pa_nil))) (pss_cons (ps_set (i := 9) nd rfl (Or.inl rfl) (pe_make (T.mkr 31 rfl) G_Record___init___C (hr.mono (by decide)) rfl (T.glo 5 rfl) b_Record___init___C .nil pass0 (pa_cons (pv 3) (pa_cons (pv 8) (pa_cons (pv 7) pa_nil))))) (Evl.pss_cut (ps_if (pt_cmpR op_eq (pe_call G__law_draw (hr.mono (by decide)) rfl g__law_draw k__law_draw b__law_draw .nil pass0 (pa_cons (pv 1) (pa_cons pe_int pa_nil))) pe_int (nomark _)) (pss_cons (ps_set (i := 9) nd rfl (Or.inl rfl) (pe_make (T.mkr 31 rfl) G_Record___init___T (hr.mono (by decide)) rfl (T.glo 5 rfl) b_Record___init___T .nil pass0 (pa_cons (pv 3) (pa_cons (pe_callTy (r := rTp K) call_tuple_of (by rfl) (fr_tuple T) (by decide +kernel) (pa_cons (pv 5) pa_nil)) (pa_cons (pv 7) pa_nil))))) pss_nil) pss_nil) (pss_cons (ps_if (PW.pt (pw_or (pt_not (pt_val (pe_call G__law_record_kept (hr.mono (by decide)) rfl g__law_record_kept k__law_record_kept b__law_record_kept .nil pass0 (pa_cons (pv 9) (pa_cons (pv 2) (pa_cons (pv 3) (pa_cons (pv 5) (pa_cons (pv 7) pa_nil)))))))) (pw_or1 (pt_cmpR (r := rNeP K) (op_neP hr.units) (pv 8) (pv 5) (nomark _))))) (pss_cons (ps_ret pe_bl) pss_nil) pss_nil) (pss_cons (ps_expr (pe_bm PySem.F.plainAttrs_list PySem.F.slot_list_append PySem.F.type_list_append mt_append (pv 8) (pa_cons (pe_tup (pa_cons pe_str (pa_cons pe_int pa_nil))) pa_nil))) (pss_cons (ps_asg (pe_tup (pa_cons pe_str (pa_cons pe_int pa_nil))) (pg_sub (pv 8) pe_int set_list)) (pss_cons (ps_if (pt_not (pt_val (pe_call G__law_record_kept (hr.mono (by decide)) rfl g__law_record_kept k__law_record_kept b__law_record_kept .nil pass0 (pa_cons (pv 9) (pa_cons (pv 2) (pa_cons (pv 3) (pa_cons (pv 5) (pa_cons (pv 7) pa_nil)))))))) (pss_cons (ps_ret pe_bl) pss_nil) pss_nil) (pss_cons (ps_set (i := 10) nd rfl (Or.inl rfl) (pe_make (T.mkr 31 rfl) G_Record___init___T (hr.mono (by decide)) rfl (T.glo 5 rfl) b_Record___init___T .nil pass0 (pa_cons (pv 3) (pa_cons (pe_callTy (r := rTp K) call_tuple_of (by rfl) (fr_tuple T) (by decide +kernel) (pa_cons (pv 5) pa_nil)) (pa_cons (pv 7) pa_nil))))) (pss_cons (ps_if (PW.pt (pw_or (pt_cmpR (r := rIsBN true) op_notBN (pe_cmpR (r := rEqS K (He.ga K "Record") _) (op_eqS G_Record___eq__ (hr.mono (by decide)) (T.meth 32 rfl) b_Record___eq__) (pv 10) (pv 9) (nomark _)) pe_bl (nomark _)) (pw_or1 (pt_cmpR (r := rIsBN true) op_notBN (pe_cmpR (r := rEqS K (He.ga K "Record") _) (op_eqS G_Record___eq__ (hr.mono (by decide)) (T.meth 32 rfl) b_Record___eq__) (pv 9) (pv 10) (nomark _)) pe_bl (nomark _))))) (pss_cons (ps_ret pe_bl) pss_nil) pss_nil) (pss_cons (ps_for PassesOwn.never rfl (pi_list (pe_call G__law_unlike (hr.mono (by decide)) rfl g__law_unlike k__law_unlike b__law_unlike .nil pass0 (pa_cons (pv 3) (pa_cons (pv 5) (pa_cons (pv 7) pa_nil))))) (pg_name (i := 11) nd rfl (Or.inl rfl)) (pss_cons (ps_if (PW.pt (pw_or (pt_cmpR (r := rIsBN true) op_notBN (pe_cmpR (r := rEqS K (He.ga K "Record") _) (op_eqS G_Record___eq__ (hr.mono (by decide)) (T.meth 32 rfl) b_Record___eq__) (pv 9) (pv 11) (nomark _)) pe_bl (nomark _)) (pw_or1 (pt_cmpR (r := rIsBN true) op_notBN (pe_cmpR (r := rEqS K (He.ga K "Record") _) (op_eqS G_Record___eq__ (hr.mono (by decide)) (T.meth 32 rfl) b_Record___eq__) (pv 11) (pv 9) (nomark _)) pe_bl (nomark _))))) (pss_cons (ps_ret pe_bl) pss_nil) pss_nil) pss_nil)) (pss_cons (ps_if (pt_cmpR (r := rNeP K) (op_neP hr.units) (pe_lst (pa_cons (pe_cmpR (r := rEqS K (He.ga K "Record") _) (op_eqS G_Record___eq___S (hr.mono (by decide)) (T.meth 32 rfl) b_Record___eq___S) (pv 9) (SlX.pe_methSl0 (pv 9) (scl_ok (T.mo 0 rfl)) (T.meth 30 rfl) (fnR_of G_Record_written b_Record_written) (hr.mono (by decide)) pass0) (nomark _)) (pa_cons (pe_cmpR (r := rEqS K (He.ga K "Record") _) (op_eqS G_Record___eq___T (hr.mono (by decide)) (T.meth 32 rfl) b_Record___eq___T) (pv 9) (pe_tup (pa_cons (pv 3) (pa_cons (pe_callTy (r := rTp K) call_tuple_of (by rfl) (fr_tuple T) (by decide +kernel) (pa_cons (pv 5) pa_nil)) (pa_cons (pv 7) pa_nil)))) (nomark _)) (pa_cons (pe_cmpR (r := rEqS K (He.ga K "Record") _) (op_eqS G_Record___eq___I (hr.mono (by decide)) (T.meth 32 rfl) b_Record___eq___I) (pv 9) (pv 7) (nomark _)) pa_nil)))) (pe_lst (pa_cons pe_bl (pa_cons pe_bl (pa_cons pe_bl pa_nil)))) (nomark _)) (pss_cons (ps_ret pe_bl) pss_nil) pss_nil) (pss_cons (ps_set (i := 12) nd rfl (Or.inl rfl) (pe_op op_cat (pv 5) (pe_lst (pa_cons (pe_tup (pa_cons (pe_ix (r := rIxL K) ix_list (pv 2) pe_int (fun _ _ => rfl)) (pa_cons pe_int pa_nil))) pa_nil)))) (Evl.pss_cut (ps_if (pt_cmpR op_eq (pe_callB (r := rLn K) call_len_seq (by rfl) (fr_len T) (by decide +kernel) (pa_cons (pv 5) pa_nil)) pe_int (nomark _)) (pss_cons (ps_set (i := 12) nd rfl (Or.inl rfl) (pe_lst (pa_cons (pe_tup (pa_cons (pe_ix (r := rIxL K) ix_list (pv 2) pe_int (fun _ _ => rfl)) (pa_cons pe_int pa_nil))) (pa_cons (pe_tup (pa_cons (pe_ix (r := rIxL K) ix_list (pv 2) pe_int (fun _ _ => rfl)) (pa_cons pe_int pa_nil))) pa_nil)))) pss_nil) pss_nil) (pss_cons (ps_for PassesOwn.never rfl (pi_range1 (by rfl) (fr_range T) (pa_cons (pe_op op_add pe_int (pe_call G__law_draw (hr.mono (by decide)) rfl g__law_draw k__law_draw b__law_draw .nil pass0 (pa_cons (pv 1) (pa_cons pe_int pa_nil)))) pa_nil)) (pg_name (i := 6) nd rfl (Or.inl rfl)) (pss_cons (ps_expr (pe_bm PySem.F.plainAttrs_list PySem.F.slot_list_insert PySem.F.type_list_insert mt_insN (pv 12) (pa_cons (pe_call G__law_draw (hr.mono (by decide)) rfl g__law_draw k__law_draw b__law_draw .nil pass0 (pa_cons (pv 1) (pa_cons (pe_op op_add (pe_callB (r := rLn K) call_len_seq (by rfl) (fr_len T) (by decide +kernel) (pa_cons (pv 12) pa_nil)) pe_int) pa_nil))) (pa_cons (pe_tup (pa_cons (pe_ix (r := rIxT K) ix_tup (pe_ix (r := rIxL K) ix_list (pv 12) (pe_call G__law_draw (hr.mono (by decide)) rfl g__law_draw k__law_draw b__law_draw .nil pass0 (pa_cons (pv 1) (pa_cons (pe_callB (r := rLn K) call_len_seq (by rfl) (fr_len T) (by decide +kernel) (pa_cons (pv 12) pa_nil)) pa_nil))) (fun _ _ => rfl)) pe_int (fun _ _ => rfl)) (pa_cons (pe_call G__law_any_value (hr.mono (by decide)) rfl g__law_any_value k__law_any_value b__law_any_value .nil pass0 (pa_cons (pv 1) pa_nil)) pa_nil))) pa_nil)))) pss_nil)) (pss_cons (ps_ret (pe_cmpR (r := rEqP K) (op_eqP hr.units) (pe_call G__law_twice_refused (hr.mono (by decide)) rfl g__law_twice_refused k__law_twice_refused b__law_twice_refused .nil pass0 (pa_cons (pv 3) (pa_cons (pv 12) (pa_cons (pv 7) pa_nil)))) (pe_lst (pa_cons (pe_call G__law_repeated (hr.mono (by decide)) rfl g__law_repeated k__law_repeated b__law_repeated .nil pass0 (pa_cons (pv 12) pa_nil)) (pa_cons pe_bl (pa_cons pe_bl (pa_cons pe_bl pa_nil))))) (nomark _))) pss_nil)))))))))))))))))))))), ?_⟩
    obtain ⟨pot_here_1538, hx1539, h⟩ := bindS h
    refine x_setL w0 (el_call (ea_cons (e_var (R := (rScr K)) (x := script0) rfl hscript0) ea_nil)) (by first | (simp only [be1, bs1, ba1] at hx1539 ⊢; exact hx1539) | exact hx1539) ?_
    intro p1542 H1540 G1543 n1544 w1541 e1545
    have h1546 := Rep.mono _ e1545 hscript0
    refine x_setO ?_
    refine o_call ?_
    refine o_cons ?_
    refine o_var rfl ?_
    refine o_cons ?_
    refine o_op ?_
    obtain ⟨x1547, hx1548, h⟩ := bindS h
    refine c_i w1541 e_int hx1548 ?_
    intro H1549 w1550
    refine o_call ?_
    refine o_cons ?_
    refine o_var rfl ?_
    refine o_cons ?_
    obtain ⟨x1552, hx1553, h⟩ := bindS h
    refine c_i w1550 e_int hx1553 ?_
    intro H1554 w1555
    refine o_nil ?_
    obtain ⟨x1557, hx1558, h⟩ := bindS h
    refine c_p1 (i := 0) (j := (x1552, ())) w1555 rfl ⟨_, _, rfl, rfl, rfl⟩ hx1558 ?_
    intro u1559 H1560 G1561 w1562 e1563 r1564
    have h1565 := Rep.mono _ e1563 h1546
    cases r1564
    have w1562 : Wo G H [] G1561 H1560 [(p1542, cL rI x1557.2)] := w1562
    obtain ⟨x1566, hx1567, h⟩ := bindS h
    refine c_rr rr_add w1562 rfl rfl hx1567 ?_
    intro u1568 H1569 G1570 w1571 e1572 r1573
    have h1574 := Rep.mono _ e1572 h1565
    cases r1573
    refine o_nil ?_
    obtain ⟨x1576, hx1577, h⟩ := bindS h
    refine c_p1l (i := 0) (j := (x1566, ())) w1571 rfl ⟨_, _, rfl, rfl, rfl⟩ hx1577 ?_
    intro p1580 H1578 G1581 n1582 w1579 e1583
    have h1584 := Rep.mono _ e1583 h1574
    have w1579 : Wo G H [] G1581 H1578 [(p1580, cL rS x1576.1), (p1542, cL rI x1576.2)] := w1579
    obtain ⟨G1585, w1586, e1587, h1588⟩ := w1579.freezeAt (i := 0) rfl n1582
    have h1589 := Rep.mono _ e1587 h1584
    have w1586 : Wo G H [] G1585 H1578 [(p1542, cL rI x1576.2)] := w1586
    refine x_setO ?_
    refine o_op ?_
    obtain ⟨x1590, hx1591, h⟩ := bindS h
    refine c_e w1586 (e_var (R := (rL rS)) (x := x1576.1) rfl h1588) hx1591 ?_
    intro v1594 H1592 G1595 w1593 e1596 h1597
    have h1598 := Rep.mono _ e1596 h1589
    have h1599 := Rep.mono _ e1596 h1588
    refine o_call ?_
    refine o_cons ?_
    refine o_var rfl ?_
    refine o_cons ?_
    obtain ⟨x1601, hx1602, h⟩ := bindS h
    refine c_i w1593 (e_cb rc_lenL (ea_cons (e_var (R := (rL rS)) (x := x1576.1) rfl h1599) ea_nil)) hx1602 ?_
    intro H1603 w1604
    refine o_nil ?_
    obtain ⟨x1606, hx1607, h⟩ := bindS h
    refine c_p1 (i := 0) (j := (x1601, ())) w1604 rfl ⟨_, _, rfl, rfl, rfl⟩ hx1607 ?_
    intro u1608 H1609 G1610 w1611 e1612 r1613
    have h1614 := Rep.mono _ e1612 h1598
    have h1615 := Rep.mono _ e1612 h1599
    have h1616 := Rep.mono _ e1612 h1597
    cases r1613
    have w1611 : Wo G H [] G1610 H1609 [(p1542, cL rI x1606.2)] := w1611
    obtain ⟨x1617, hx1618, h⟩ := bindS h
    refine c_rr rr_ixL w1611 h1616 rfl hx1618 ?_
    intro u1619 H1620 G1621 w1622 e1623 r1624
    have h1625 := Rep.mono _ e1623 h1614
    have h1626 := Rep.mono _ e1623 h1615
    have h1627 := Rep.mono _ e1623 h1616
    cases r1624
    obtain ⟨rest_1628, hx1629, h⟩ := bindS h
    refine x_setL w1622 (el_cb rc_listL (ea_cons (e_var (R := (rL rS)) (x := x1576.1) rfl h1626) ea_nil)) hx1629 ?_
    intro p1632 H1630 G1633 n1634 w1631 e1635
    have h1636 := Rep.mono _ e1635 h1625
    have h1637 := Rep.mono _ e1635 h1626
    obtain ⟨asks_1638, hx1639, h⟩ := bindS h
    refine x_setL w1631 (el_disp (R := (rP rS rI)) eal_nil) hx1639 ?_
    intro p1642 H1640 G1643 n1644 w1641 e1645
    have h1646 := Rep.mono _ e1645 h1636
    have h1647 := Rep.mono _ e1645 h1637
    refine o_forR ?_
    refine o_cons ?_
    refine o_call ?_
    refine o_cons ?_
    refine o_var rfl ?_
    refine o_cons ?_
    obtain ⟨x1648, hx1649, h⟩ := bindS h
    refine c_i w1641 (e_op rr_add (e_cb rc_lenL (ea_cons (e_var (R := (rL rS)) (x := x1576.1) rfl h1647) ea_nil)) e_int) hx1649 ?_
    intro H1650 w1651
    refine o_nil ?_
    obtain ⟨x1653, hx1654, h⟩ := bindS h
    refine c_p1 (i := 2) (j := (x1648, ())) w1651 rfl ⟨_, _, rfl, rfl, rfl⟩ hx1654 ?_
    intro u1655 H1656 G1657 w1658 e1659 r1660
    have h1661 := Rep.mono _ e1659 h1646
    have h1662 := Rep.mono _ e1659 h1647
    cases r1660
    have w1658 : Wo G H [] G1657 H1656 [(p1642, cL (rP rS rI) asks_1638), (p1632, cL rS rest_1628), (p1542, cL rI x1653.2)] := w1658
    refine o_nil ?_
    obtain ⟨xs1664, hx1665, h⟩ := bindS h
    obtain ⟨t1667, hx1668, h⟩ := bindS h
    refine v_forR w1658 hx1665 (fun i G' H' σ' => ∃ s1669 : ((List (Str × Int)) × ((List Int) × (List Str))), ∃ u1670 : Option V, ∃ u1671 : Option V, Wo G H [] G' H' [(p1642, cL (rP rS rI) s1669.1), (p1632, cL rS s1669.2.2), (p1542, cL rI s1669.2.1)] ∧ Evl.Ex G1657 G' ∧ σ' = [some vscript0, some (V.ref p1542), some (V.ref p1580), some (V.str x1617), some (V.ref p1632), some (V.ref p1642), u1670, none, none, none, none, none, none, u1671] ∧ forS (m_law_b1) (xs1664.drop i) s1669 = some t1667) ?_ ?_ ?_
    · exact ⟨(asks_1638, (x1653.2, rest_1628)), (none), (none), w1658, (Evl.Ex.refl _), rfl, hx1668⟩
    · rintro i1679 x1680 σ' G1675 H1678 hx1681 ⟨s1669, u1670, u1671, w1676, e1677, rfl, hm1673⟩
      obtain ⟨q1674, hb1672, hm1673⟩ := forS_at hx1681 hm1673
      have h1682 := Rep.mono _ e1677 h1661
      have h1683 := Rep.mono _ e1677 h1662
      refine g_name ?_
      unfold m_law_b1 at hb1672
      refine x_setO ?_
      refine o_bm (j := 1) w1676 rfl rfl ?_
      refine o_cons ?_
      refine o_call ?_
      refine o_cons ?_
      refine o_var rfl ?_
      refine o_cons ?_
      obtain ⟨x1684, hx1685, hb1672⟩ := bindS hb1672
      refine c_i w1676 (Sim.E.s scI (e_cb rc_lenL (ea_cons (e_var (R := (rL rS)) (x := s1669.2.2) rfl (w1676.rlAt (i := 1) rfl)) ea_nil))) hx1685 ?_
      intro H1686 w1687
      refine o_nil ?_
      obtain ⟨x1689, hx1690, hb1672⟩ := bindS hb1672
      refine c_p1 (i := 2) (j := (x1684, ())) w1687 rfl ⟨_, _, rfl, rfl, rfl⟩ hx1690 ?_
      intro u1691 H1692 G1693 w1694 e1695 r1696
      have h1697 := Rep.mono _ e1695 h1682
      have h1698 := Rep.mono _ e1695 h1683
      cases r1696
      have w1694 : Wo G H [] G1693 H1692 [(p1642, cL (rP rS rI) s1669.1), (p1632, cL rS s1669.2.2), (p1542, cL rI x1689.2)] := w1694
      refine o_nil ?_
      obtain ⟨x1700, hx1701, hb1672⟩ := bindS hb1672
      refine c_popAt (j := 1) w1694 rfl hx1701 ?_
      intro v1702 H1703 w1704 r1705
      cases r1705
      have w1704 : Wo G H [] G1693 H1703 [(p1642, cL (rP rS rI) s1669.1), (p1632, cL rS x1700.2), (p1542, cL rI x1689.2)] := w1704
      refine x_drop ?_
      refine o_bm (j := 0) w1704 rfl rfl ?_
      refine o_cons ?_
      refine o_tup ?_
      refine o_cons ?_
      obtain ⟨x1706, hx1707, hb1672⟩ := bindS hb1672
      refine c_s w1704 (e_var (R := rS) (x := x1700.1) rfl rfl) hx1707 ?_
      intro H1708 w1709
      refine o_cons ?_
      refine o_call ?_
      refine o_cons ?_
      refine o_var rfl ?_
      refine o_nil ?_
      obtain ⟨x1711, hx1712, hb1672⟩ := bindS hb1672
      refine c_p1 (i := 2) (j := ()) w1709 rfl rfl hx1712 ?_
      intro u1713 H1714 G1715 w1716 e1717 r1718
      have h1719 := Rep.mono _ e1717 h1697
      have h1720 := Rep.mono _ e1717 h1698
      cases r1718
      have w1716 : Wo G H [] G1715 H1714 [(p1642, cL (rP rS rI) s1669.1), (p1632, cL rS x1700.2), (p1542, cL rI x1711.2)] := w1716
      refine o_nil ?_
      refine c_pairO (R := rS) (S := rI) (x := x1706) (y := x1711.1) w1716 rfl rfl ?_
      intro v1722 H1727 G1723 w1724 e1725 h1726
      have h1728 := Rep.mono _ e1725 h1719
      have h1729 := Rep.mono _ e1725 h1720
      refine o_nil ?_
      obtain ⟨asks_1731, hx1732, hb1672⟩ := bindS hb1672
      obtain ⟨hs1735, q1736⟩ := appM_ok hx1732
      subst q1736
      refine c_app (j := 0) w1724 rfl hs1735 h1726 ?_
      intro H1733 w1734
      have w1734 : Wo G H [] G1723 H1733 [(p1642, cL (rP rS rI) (s1669.1 ++ [(x1706, x1711.1)])), (p1632, cL rS x1700.2), (p1542, cL rI x1711.2)] := w1734
      refine x_next ?_
      have hb1672 : ((s1669.1 ++ [(x1706, x1711.1)]), (x1711.2, x1700.2)) = q1674 := Option.some.inj hb1672
      subst hb1672
      exact ⟨G1723, ((s1669.1 ++ [(x1706, x1711.1)]), (x1711.2, x1700.2)), (some (V.int x1680)), (some (V.str x1700.1)), w1734, (((e1677.trans e1695).trans e1717).trans e1725), rfl, hm1673⟩
    · rintro σ' G1737 H1740 ⟨s1669, u1670, u1671, w1738, e1739, rfl, hm1673⟩
      have hm1673 := forS_end hm1673
      subst hm1673
      have h1742 := Rep.mono _ e1739 h1661
      have h1743 := Rep.mono _ e1739 h1662
      refine x_setO ?_
      refine o_call ?_
      refine o_cons ?_
      refine o_var rfl ?_
      refine o_nil ?_
      obtain ⟨x1744, hx1745, h⟩ := bindS h
      refine c_p1 (i := 2) (j := ()) w1738 rfl rfl hx1745 ?_
      intro u1746 H1747 G1748 w1749 e1750 r1751
      have h1752 := Rep.mono _ e1750 h1742
      have h1753 := Rep.mono _ e1750 h1743
      cases r1751
      have w1749 : Wo G H [] G1748 H1747 [(p1642, cL (rP rS rI) s1669.1), (p1632, cL rS s1669.2.2), (p1542, cL rI x1744.2)] := w1749
      obtain ⟨G1754, w1755, e1756, h1757⟩ := w1749.freezeAt (i := 0) rfl n1644
      have h1758 := Rep.mono _ e1756 h1752
      have h1759 := Rep.mono _ e1756 h1753
      have w1755 : Wo G H [] G1754 H1747 [(p1632, cL rS s1669.2.2), (p1542, cL rI x1744.2)] := w1755
      obtain ⟨handed_1760, hx1761, h⟩ := bindS h
      refine x_setL w1755 (el_cb rc_listL (ea_cons (e_var (R := (rL (rP rS rI))) (x := s1669.1) rfl h1757) ea_nil)) hx1761 ?_
      intro p1764 H1762 G1765 n1766 w1763 e1767
      have h1768 := Rep.mono _ e1767 h1758
      have h1769 := Rep.mono _ e1767 h1759
      have h1770 := Rep.mono _ e1767 h1757
      obtain ⟨record_1771, hx1772, h⟩ := bindS h
      refine x_set w1763 (e_makeBS (ea_cons (e_var (R := rS) (x := x1617) rfl rfl) (ea_cons (e_var (R := rA) (x := p1764) rfl rfl) (ea_cons (e_var (R := rI) (x := x1744.1) rfl rfl) ea_nil))) (w1763.lent (i := 0) rfl) (fun _ h => by cases h; rfl)) (by first | (simp only [be1, bs1, ba1] at hx1772 ⊢; exact hx1772) | exact hx1772) ?_
      intro v1775 H1773 G1776 w1774 e1777 h1778
      have h1779 := Rep.mono _ e1777 h1768
      have h1780 := Rep.mono _ e1777 h1769
      have h1781 := Rep.mono _ e1777 h1770
      obtain ⟨s1828, hx1829, h⟩ := bindS h
      refine o_cut (fun σ' H' => ∃ v1830 : V, ∃ G' : Hp, Wo G H [] G' H' [(p1764, cL (rP rS rI) handed_1760), (p1632, cL rS s1669.2.2), (p1542, cL rI s1828.1)] ∧ Evl.Ex G1776 G' ∧ σ' = [some vscript0, some (V.ref p1542), some (V.ref p1580), some (V.str x1617), some (V.ref p1632), some (V.ref p1642), u1670, some (V.int x1744.1), some (V.ref p1764), some v1830, none, none, none, u1671] ∧ (r_Record K).r G' v1830 s1828.2) ?_ ?_
      · refine o_if ?_
        refine o_T ?_
        refine o_op ?_
        refine o_call ?_
        refine o_cons ?_
        refine o_var rfl ?_
        refine o_cons ?_
        obtain ⟨x1834, hx1835, hx1829⟩ := bindS hx1829
        refine c_i w1774 e_int hx1835 ?_
        intro H1836 w1837
        refine o_nil ?_
        obtain ⟨x1839, hx1840, hx1829⟩ := bindS hx1829
        refine c_p1 (i := 2) (j := (x1834, ())) w1837 rfl ⟨_, _, rfl, rfl, rfl⟩ hx1840 ?_
        intro u1841 H1842 G1843 w1844 e1845 r1846
        have h1847 := Rep.mono _ e1845 h1779
        have h1848 := Rep.mono _ e1845 h1780
        have h1849 := Rep.mono _ e1845 h1781
        have h1850 := Rep.mono _ e1845 h1778
        cases r1846
        have w1844 : Wo G H [] G1843 H1842 [(p1764, cL (rP rS rI) handed_1760), (p1632, cL rS s1669.2.2), (p1542, cL rI x1839.2)] := w1844
        obtain ⟨x1852, hx1853, hx1829⟩ := bindS hx1829
        refine c_i w1844 e_int hx1853 ?_
        intro H1854 w1855
        obtain ⟨x1856, hx1857, hx1829⟩ := bindS hx1829
        refine c_rr rr_eqI w1855 rfl rfl hx1857 ?_
        intro u1858 H1859 G1860 w1861 e1862 r1863
        have h1864 := Rep.mono _ e1862 h1847
        have h1865 := Rep.mono _ e1862 h1848
        have h1866 := Rep.mono _ e1862 h1849
        have h1867 := Rep.mono _ e1862 h1850
        cases r1863
        refine ⟨_, rfl, ite_b ?_ ?_⟩
        · intro hb1880
          rw [hb1880] at hx1829
          have hx1829 := bifT hx1829
          obtain ⟨record_1868, hx1869, hx1829⟩ := bindS hx1829
          refine x_set w1861 (e_makeS (ea_cons (e_var (R := rS) (x := x1617) rfl rfl) (ea_cons (e_cb rc_tupleL (ea_cons (e_var (R := (rL (rP rS rI))) (x := s1669.1) rfl h1866) ea_nil)) (ea_cons (e_var (R := rI) (x := x1744.1) rfl rfl) ea_nil)))) (by first | (simp only [be1, bs1, ba1] at hx1869 ⊢; exact hx1869) | exact hx1869) ?_
          intro v1872 H1870 G1873 w1871 e1874 h1875
          have h1876 := Rep.mono _ e1874 h1864
          have h1877 := Rep.mono _ e1874 h1865
          have h1878 := Rep.mono _ e1874 h1866
          have h1879 := Rep.mono _ e1874 h1867
          refine x_next ?_
          have hx1829 : (x1839.2, record_1868) = s1828 := Option.some.inj hx1829
          subst hx1829
          exact ⟨v1872, G1873, w1871, ((e1845.trans e1862).trans e1874), rfl, h1875⟩
        · intro hb1881
          rw [hb1881] at hx1829
          have hx1829 := bifF hx1829
          refine x_next ?_
          have hx1829 : (x1839.2, record_1771) = s1828 := Option.some.inj hx1829
          subst hx1829
          exact ⟨v1775, G1860, w1861, (e1845.trans e1862), rfl, h1867⟩
      · rintro σ' H1883 ⟨v1830, G1882, w1833, e1832, rfl, h1831⟩
        have h1884 := Rep.mono _ e1832 h1779
        have h1885 := Rep.mono _ e1832 h1780
        have h1886 := Rep.mono _ e1832 h1781
        obtain ⟨b1888, hx1889, h⟩ := bindS h
        refine x_if w1833 (et_or (et_not (et_B (e_call (ea_cons (e_var (R := (r_Record K)) (x := s1828.2) rfl (Rep.mono _ w1833.ex h1831)) (ea_cons (e_var (R := (rL rS)) (x := x1576.1) rfl (Rep.mono _ w1833.ex h1885)) (ea_cons (e_var (R := rS) (x := x1617) rfl rfl) (ea_cons (e_var (R := (rL (rP rS rI))) (x := s1669.1) rfl (Rep.mono _ w1833.ex h1886)) (ea_cons (e_var (R := rI) (x := x1744.1) rfl rfl) ea_nil)))))))) (et_T (e_op (rr_neD (dtL (dtP dtS dtI)) (by decide)) (e_var (R := (rL (rP rS rI))) (x := handed_1760) rfl (w1833.rlAt (i := 0) rfl)) (e_var (R := (rL (rP rS rI))) (x := s1669.1) rfl (Rep.mono _ w1833.ex h1886))))) (by first | (simp only [be1, bs1, ba1] at hx1889 ⊢; exact hx1889) | exact hx1889) ?_ ?_
        · intro hbb1888 H1890 w1891
          subst hbb1888
          have h := bifT h
          obtain ⟨a1892, hx1893, h⟩ := bindS h
          have h : a1892 = r := Option.some.inj h
          subst h
          exact x_ret w1891 e_bl hx1893 (fun v9 H9 G9 w9 e9 r9 => k v9 H9 G9 w9.upE r9)
        · intro hbb1888 H1894 w1895
          subst hbb1888
          have h := bifF h
          refine x_next ?_
          obtain ⟨a1896, hx1898, h⟩ := bindS h
          obtain ⟨handed_1897, hx1899, h⟩ := bindS h
          obtain ⟨hs1900, rfl⟩ := appM_ok hx1899
          refine x_app (j := 0) w1895 rfl hs1900 rfl (e_pair e_str e_int) hx1898 ?_
          intro H1901 G1902 w1903 e1904
          have h1905 := Rep.mono _ e1904 h1884
          have h1906 := Rep.mono _ e1904 h1885
          have h1907 := Rep.mono _ e1904 h1886
          have h1908 := Rep.mono _ e1904 h1831
          have w1903 : Wo G H [] G1902 H1901 [(p1764, cL (rP rS rI) (handed_1760 ++ [a1896])), (p1632, cL rS s1669.2.2), (p1542, cL rI s1828.1)] := w1903
          obtain ⟨a1909, hx1912, h⟩ := bindS h
          obtain ⟨i1910, hx1913, h⟩ := bindS h
          obtain ⟨handed_1911, hx1914, h⟩ := bindS h
          refine x_setIx (j := 0) w1903 rfl rfl (e_pair e_str e_int) hx1912 e_int hx1913 hx1914 ?_
          intro H1915 G1916 w1917 e1918
          have h1919 := Rep.mono _ e1918 h1905
          have h1920 := Rep.mono _ e1918 h1906
          have h1921 := Rep.mono _ e1918 h1907
          have h1922 := Rep.mono _ e1918 h1908
          have w1917 : Wo G H [] G1916 H1915 [(p1764, cL (rP rS rI) handed_1911), (p1632, cL rS s1669.2.2), (p1542, cL rI s1828.1)] := w1917
          obtain ⟨b1924, hx1925, h⟩ := bindS h
          refine x_if w1917 (et_not (et_B (e_call (ea_cons (e_var (R := (r_Record K)) (x := s1828.2) rfl (Rep.mono _ w1917.ex h1922)) (ea_cons (e_var (R := (rL rS)) (x := x1576.1) rfl (Rep.mono _ w1917.ex h1920)) (ea_cons (e_var (R := rS) (x := x1617) rfl rfl) (ea_cons (e_var (R := (rL (rP rS rI))) (x := s1669.1) rfl (Rep.mono _ w1917.ex h1921)) (ea_cons (e_var (R := rI) (x := x1744.1) rfl rfl) ea_nil)))))))) (by first | (simp only [be1, bs1, ba1] at hx1925 ⊢; exact hx1925) | exact hx1925) ?_ ?_
          · intro hbb1924 H1926 w1927
            subst hbb1924
            have h := bifT h
            obtain ⟨a1928, hx1929, h⟩ := bindS h
            have h : a1928 = r := Option.some.inj h
            subst h
            exact x_ret w1927 e_bl hx1929 (fun v9 H9 G9 w9 e9 r9 => k v9 H9 G9 w9.upE r9)
          · intro hbb1924 H1930 w1931
            subst hbb1924
            have h := bifF h
            refine x_next ?_
            obtain ⟨twin_1932, hx1933, h⟩ := bindS h
            refine x_set w1931 (e_makeS (ea_cons (e_var (R := rS) (x := x1617) rfl rfl) (ea_cons (e_cb rc_tupleL (ea_cons (e_var (R := (rL (rP rS rI))) (x := s1669.1) rfl h1921) ea_nil)) (ea_cons (e_var (R := rI) (x := x1744.1) rfl rfl) ea_nil)))) (by first | (simp only [be1, bs1, ba1] at hx1933 ⊢; exact hx1933) | exact hx1933) ?_
            intro v1936 H1934 G1937 w1935 e1938 h1939
            have h1940 := Rep.mono _ e1938 h1919
            have h1941 := Rep.mono _ e1938 h1920
            have h1942 := Rep.mono _ e1938 h1921
            have h1943 := Rep.mono _ e1938 h1922
            obtain ⟨b1946, hx1947, h⟩ := bindS h
            refine x_if w1935 (et_or (et_T (e_op (rr_isBN (neg := true)) (e_op (rr_eqSl nslObj) (e_var (R := (r_Record K)) (x := twin_1932) rfl (Rep.mono _ w1935.ex h1939)) (e_var (R := (r_Record K)) (x := s1828.2) rfl (Rep.mono _ w1935.ex h1943))) e_bl)) (et_T (e_op (rr_isBN (neg := true)) (e_op (rr_eqSl nslObj) (e_var (R := (r_Record K)) (x := s1828.2) rfl (Rep.mono _ w1935.ex h1943)) (e_var (R := (r_Record K)) (x := twin_1932) rfl (Rep.mono _ w1935.ex h1939))) e_bl))) (by first | (simp only [be1, bs1, ba1] at hx1947 ⊢; exact hx1947) | exact hx1947) ?_ ?_
            · intro hbb1946 H1948 w1949
              subst hbb1946
              have h := bifT h
              obtain ⟨a1950, hx1951, h⟩ := bindS h
              have h : a1950 = r := Option.some.inj h
              subst h
              exact x_ret w1949 e_bl hx1951 (fun v9 H9 G9 w9 e9 r9 => k v9 H9 G9 w9.upE r9)
            · intro hbb1946 H1952 w1953
              subst hbb1946
              have h := bifF h
              refine x_next ?_
              obtain ⟨xs1954, hx1955, h⟩ := bindS h
              obtain ⟨t1957, hx1958, h⟩ := bindS h
              refine x_forL w1953 (EL.e (el_call (ea_cons (e_var (R := rS) (x := x1617) rfl rfl) (ea_cons (e_var (R := (rL (rP rS rI))) (x := s1669.1) rfl h1942) (ea_cons (e_var (R := rI) (x := x1744.1) rfl rfl) ea_nil))))) (by first | (simp only [be1, bs1, ba1] at hx1955 ⊢; exact hx1955) | exact hx1955) (fun i G' H' σ' => ∃ s1959 : Unit, ∃ u1960 : Option V, Wo G H [] G' H' [(p1764, cL (rP rS rI) handed_1911), (p1632, cL rS s1669.2.2), (p1542, cL rI s1828.1)] ∧ Evl.Ex G1937 G' ∧ σ' = [some vscript0, some (V.ref p1542), some (V.ref p1580), some (V.str x1617), some (V.ref p1632), some (V.ref p1642), u1670, some (V.int x1744.1), some (V.ref p1764), some v1830, some v1936, u1960, none, u1671] ∧ forL (m_law_b2 s1828) (xs1954.drop i) s1959 = some t1957) (fun _ _ _ _ ⟨_, _, w, _⟩ => w.ex) ?_ ?_ ?_
              · intro G' H' w' e'
                exact ⟨(), (none), w', e', rfl, hx1958⟩
              · rintro G1971 e1972 i1968 x1969 v1973 σ' G1964 H1967 hx1970 e1975 ⟨s1959, u1960, w1965, e1966, rfl, hm1962⟩ r1974
                obtain ⟨q1963, hb1961, hm1962⟩ := forL_at hx1970 hm1962
                have h1976 := Rep.mono _ e1966 h1940
                have h1977 := Rep.mono _ e1966 h1941
                have h1978 := Rep.mono _ e1966 h1942
                have h1979 := Rep.mono _ e1966 h1943
                have h1980 := Rep.mono _ e1966 h1939
                refine g_name ?_
                unfold m_law_b2 at hb1961
                obtain ⟨b1983, hx1984, hb1961⟩ := bindS hb1961
                refine x_if w1965 (et_or (et_T (e_op (rr_isBN (neg := true)) (e_op (rr_eqSl nslObj) (e_var (R := (r_Record K)) (x := s1828.2) rfl (Rep.mono _ w1965.ex h1979)) (e_var (R := (r_Record K)) (x := x1969) rfl (Rep.mono _ w1965.ex r1974))) e_bl)) (et_T (e_op (rr_isBN (neg := true)) (e_op (rr_eqSl nslObj) (e_var (R := (r_Record K)) (x := x1969) rfl (Rep.mono _ w1965.ex r1974)) (e_var (R := (r_Record K)) (x := s1828.2) rfl (Rep.mono _ w1965.ex h1979))) e_bl))) (by first | (simp only [be1, bs1, ba1] at hx1984 ⊢; exact hx1984) | exact hx1984) ?_ ?_
                · intro hbb1983 H1985 w1986
                  subst hbb1983
                  have hb1961 := bifT hb1961
                  obtain ⟨a1987, hx1988, hb1961⟩ := bindS hb1961
                  have hb1961 : some (Stp.rt a1987) = some q1963 := hb1961
                  cases hb1961
                  have hm1962 : some (Sum.inr a1987) = some t1957 := hm1962
                  cases hm1962
                  have h : a1987 = r := Option.some.inj h
                  subst h
                  exact x_ret w1986 e_bl hx1988 (fun v9 H9 G9 w9 e9 r9 => k v9 H9 G9 w9.upE r9)
                · intro hbb1983 H1989 w1990
                  subst hbb1983
                  have hb1961 := bifF hb1961
                  refine x_next ?_
                  refine x_next ?_
                  have hb1961 : Stp.nx () = q1963 := Option.some.inj hb1961
                  subst hb1961
                  exact ⟨G1964, (e1975.trans (Evl.Ex.refl _)), (), (some v1973), w1990, e1966, rfl, hm1962⟩
              · rintro σ' G1991 H1994 e1995 ⟨s1959, u1960, w1992, e1993, rfl, hm1962⟩
                have hm1962 := forL_end hm1962
                subst hm1962
                have h := elimL h
                have h1997 := Rep.mono _ e1993 h1940
                have h1998 := Rep.mono _ e1993 h1941
                have h1999 := Rep.mono _ e1993 h1942
                have h2000 := Rep.mono _ e1993 h1943
                have h2001 := Rep.mono _ e1993 h1939
                obtain ⟨b2007, hx2008, h⟩ := bindS h
                refine x_if w1992 (et_T (e_op (rr_neD (dtL dtB) (by decide)) (EL.e (el_disp (eal_cons (e_op (rr_eqSl (nslTy ktS (subN_ok (T.mo 15 rfl)))) (e_var (R := (r_Record K)) (x := s1828.2) rfl (Rep.mono _ w1992.ex h2000)) (e_methS (e_var (R := (r_Record K)) (x := s1828.2) rfl (Rep.mono _ w1992.ex h2000)) ea_nil)) (eal_cons (e_op (rr_eqSl (nslTy ktT (subN_ok (T.mo 16 rfl)))) (e_var (R := (r_Record K)) (x := s1828.2) rfl (Rep.mono _ w1992.ex h2000)) (e_tupH (eal_cons (e_toD (K := K) (e_var (R := rS) (x := x1617) rfl rfl) dtS (by decide)) (eal_cons (e_toD (K := K) (e_cb rc_tupleL (ea_cons (e_var (R := (rL (rP rS rI))) (x := s1669.1) rfl (Rep.mono _ w1992.ex h1999)) ea_nil)) (dtT (dtP dtS dtI)) (by decide)) (eal_cons (e_toD (K := K) (e_var (R := rI) (x := x1744.1) rfl rfl) dtI (by decide)) eal_nil))))) (eal_cons (e_op (rr_eqSl (nslTy ktI (subN_ok (T.mo 17 rfl)))) (e_var (R := (r_Record K)) (x := s1828.2) rfl (Rep.mono _ w1992.ex h2000)) (e_var (R := rI) (x := x1744.1) rfl rfl)) eal_nil))))) (EL.e (el_disp (eal_cons e_bl (eal_cons e_bl (eal_cons e_bl eal_nil))))))) (by first | (simp only [be1, bs1, ba1] at hx2008 ⊢; exact hx2008) | exact hx2008) ?_ ?_
                · intro hbb2007 H2009 w2010
                  subst hbb2007
                  have h := bifT h
                  obtain ⟨a2011, hx2012, h⟩ := bindS h
                  have h : a2011 = r := Option.some.inj h
                  subst h
                  exact x_ret w2010 e_bl hx2012 (fun v9 H9 G9 w9 e9 r9 => k v9 H9 G9 w9.upE r9)
                · intro hbb2007 H2013 w2014
                  subst hbb2007
                  have h := bifF h
                  refine x_next ?_
                  obtain ⟨spoilt_2018, hx2019, h⟩ := bindS h
                  refine x_setL w2014 (el_op rrl_cat (e_var (R := (rL (rP rS rI))) (x := s1669.1) rfl h1999) (EL.e (el_disp (eal_cons (e_pair (e_op rr_ixL (e_var (R := (rL rS)) (x := x1576.1) rfl h1998) e_int) e_int) eal_nil)))) (by first | (simp only [be1, bs1, ba1] at hx2019 ⊢; exact hx2019) | exact hx2019) ?_
                  intro p2022 H2020 G2023 n2024 w2021 e2025
                  have h2026 := Rep.mono _ e2025 h1997
                  have h2027 := Rep.mono _ e2025 h1998
                  have h2028 := Rep.mono _ e2025 h1999
                  have h2029 := Rep.mono _ e2025 h2000
                  have h2030 := Rep.mono _ e2025 h2001
                  obtain ⟨s2050, hx2051, h⟩ := bindS h
                  refine o_cut (fun σ' H' => ∃ p2052 : Addr, ∃ G' : Hp, Wo G H [] G' H' [(p2052, cL (rP rS rI) s2050), (p1764, cL (rP rS rI) handed_1911), (p1632, cL rS s1669.2.2), (p1542, cL rI s1828.1)] ∧ Evl.Ex G2023 G' ∧ σ' = [some vscript0, some (V.ref p1542), some (V.ref p1580), some (V.str x1617), some (V.ref p1632), some (V.ref p1642), u1670, some (V.int x1744.1), some (V.ref p1764), some v1830, some v1936, u1960, some (V.ref p2052), u1671] ∧ H p2052 = none) ?_ ?_
                  · obtain ⟨b2031, hx2057, hx2051⟩ := bindS hx2051
                    refine x_if w2021 (et_T (e_op rr_eqI (e_cb rc_lenL (ea_cons (e_var (R := (rL (rP rS rI))) (x := s1669.1) rfl (Rep.mono _ w2021.ex h2028)) ea_nil)) e_int)) hx2057 ?_ ?_
                    · intro hbb2031 H2058 w2059
                      subst hbb2031
                      have hx2051 := bifT hx2051
                      obtain ⟨spoilt_2064, hx2065, hx2051⟩ := bindS hx2051
                      have w2066 := w2059.dropAt 0
                      have w2066 : Wo G H [] G2023 H2058 [(p1764, cL (rP rS rI) handed_1911), (p1632, cL rS s1669.2.2), (p1542, cL rI s1828.1)] := w2066
                      refine x_setL w2066 (el_disp (eal_cons (e_pair (e_op rr_ixL (e_var (R := (rL rS)) (x := x1576.1) rfl h2027) e_int) e_int) (eal_cons (e_pair (e_op rr_ixL (e_var (R := (rL rS)) (x := x1576.1) rfl h2027) e_int) e_int) eal_nil))) (by first | (simp only [be1, bs1, ba1] at hx2065 ⊢; exact hx2065) | exact hx2065) ?_
                      intro p2069 H2067 G2070 n2071 w2068 e2072
                      have h2073 := Rep.mono _ e2072 h2026
                      have h2074 := Rep.mono _ e2072 h2027
                      have h2075 := Rep.mono _ e2072 h2028
                      have h2076 := Rep.mono _ e2072 h2029
                      have h2077 := Rep.mono _ e2072 h2030
                      refine x_next ?_
                      have hx2051 : spoilt_2064 = s2050 := Option.some.inj hx2051
                      subst hx2051
                      exact ⟨p2069, G2070, w2068, e2072, rfl, n2071⟩
                    · intro hbb2031 H2078 w2079
                      subst hbb2031
                      have hx2051 := bifF hx2051
                      refine x_next ?_
                      have hx2051 : spoilt_2018 = s2050 := Option.some.inj hx2051
                      subst hx2051
                      exact ⟨p2022, G2023, w2079, (Evl.Ex.refl _), rfl, n2024⟩
                  · rintro σ' H2086 ⟨p2052, G2080, w2055, e2054, rfl, n2053⟩
                    have h2081 := Rep.mono _ e2054 h2026
                    have h2082 := Rep.mono _ e2054 h2027
                    have h2083 := Rep.mono _ e2054 h2028
                    have h2084 := Rep.mono _ e2054 h2029
                    have h2085 := Rep.mono _ e2054 h2030
                    refine o_forR ?_
                    refine o_cons ?_
                    refine o_op ?_
                    obtain ⟨x2087, hx2088, h⟩ := bindS h
                    refine c_i w2055 e_int hx2088 ?_
                    intro H2089 w2090
                    refine o_call ?_
                    refine o_cons ?_
                    refine o_var rfl ?_
                    refine o_cons ?_
                    obtain ⟨x2092, hx2093, h⟩ := bindS h
                    refine c_i w2090 e_int hx2093 ?_
                    intro H2094 w2095
                    refine o_nil ?_
                    obtain ⟨x2097, hx2098, h⟩ := bindS h
                    refine c_p1 (i := 3) (j := (x2092, ())) w2095 rfl ⟨_, _, rfl, rfl, rfl⟩ hx2098 ?_
                    intro u2099 H2100 G2101 w2102 e2103 r2104
                    have h2105 := Rep.mono _ e2103 h2081
                    have h2106 := Rep.mono _ e2103 h2082
                    have h2107 := Rep.mono _ e2103 h2083
                    have h2108 := Rep.mono _ e2103 h2084
                    have h2109 := Rep.mono _ e2103 h2085
                    cases r2104
                    have w2102 : Wo G H [] G2101 H2100 [(p2052, cL (rP rS rI) s2050), (p1764, cL (rP rS rI) handed_1911), (p1632, cL rS s1669.2.2), (p1542, cL rI x2097.2)] := w2102
                    obtain ⟨x2110, hx2111, h⟩ := bindS h
                    refine c_rr rr_add w2102 rfl rfl hx2111 ?_
                    intro u2112 H2113 G2114 w2115 e2116 r2117
                    have h2118 := Rep.mono _ e2116 h2105
                    have h2119 := Rep.mono _ e2116 h2106
                    have h2120 := Rep.mono _ e2116 h2107
                    have h2121 := Rep.mono _ e2116 h2108
                    have h2122 := Rep.mono _ e2116 h2109
                    cases r2117
                    refine o_nil ?_
                    obtain ⟨xs2124, hx2125, h⟩ := bindS h
                    obtain ⟨t2127, hx2128, h⟩ := bindS h
                    refine v_forR w2115 hx2125 (fun i G' H' σ' => ∃ s2129 : ((List Int) × (List (Str × Int))), ∃ u2130 : Option V, Wo G H [] G' H' [(p2052, cL (rP rS rI) s2129.2), (p1764, cL (rP rS rI) handed_1911), (p1632, cL rS s1669.2.2), (p1542, cL rI s2129.1)] ∧ Evl.Ex G2114 G' ∧ σ' = [some vscript0, some (V.ref p1542), some (V.ref p1580), some (V.str x1617), some (V.ref p1632), some (V.ref p1642), u2130, some (V.int x1744.1), some (V.ref p1764), some v1830, some v1936, u1960, some (V.ref p2052), u1671] ∧ forS (m_law_b3) (xs2124.drop i) s2129 = some t2127) ?_ ?_ ?_
                    · exact ⟨(x2097.2, s2050), (u1670), w2115, (Evl.Ex.refl _), rfl, hx2128⟩
                    · rintro i2138 x2139 σ' G2134 H2137 hx2140 ⟨s2129, u2130, w2135, e2136, rfl, hm2132⟩
                      obtain ⟨q2133, hb2131, hm2132⟩ := forS_at hx2140 hm2132
                      have h2141 := Rep.mono _ e2136 h2118
                      have h2142 := Rep.mono _ e2136 h2119
                      have h2143 := Rep.mono _ e2136 h2120
                      have h2144 := Rep.mono _ e2136 h2121
                      have h2145 := Rep.mono _ e2136 h2122
                      refine g_name ?_
                      unfold m_law_b3 at hb2131
                      refine x_drop ?_
                      refine o_bm (j := 0) w2135 rfl rfl ?_
                      refine o_cons ?_
                      refine o_call ?_
                      refine o_cons ?_
                      refine o_var rfl ?_
                      refine o_cons ?_
                      obtain ⟨x2146, hx2147, hb2131⟩ := bindS hb2131
                      refine c_i w2135 (Sim.E.s scI (e_op rr_add (e_cb rc_lenL (ea_cons (e_var (R := (rL (rP rS rI))) (x := s2129.2) rfl (w2135.rlAt (i := 0) rfl)) ea_nil)) e_int)) hx2147 ?_
                      intro H2148 w2149
                      refine o_nil ?_
                      obtain ⟨x2151, hx2152, hb2131⟩ := bindS hb2131
                      refine c_p1 (i := 3) (j := (x2146, ())) w2149 rfl ⟨_, _, rfl, rfl, rfl⟩ hx2152 ?_
                      intro u2153 H2154 G2155 w2156 e2157 r2158
                      have h2159 := Rep.mono _ e2157 h2141
                      have h2160 := Rep.mono _ e2157 h2142
                      have h2161 := Rep.mono _ e2157 h2143
                      have h2162 := Rep.mono _ e2157 h2144
                      have h2163 := Rep.mono _ e2157 h2145
                      cases r2158
                      have w2156 : Wo G H [] G2155 H2154 [(p2052, cL (rP rS rI) s2129.2), (p1764, cL (rP rS rI) handed_1911), (p1632, cL rS s1669.2.2), (p1542, cL rI x2151.2)] := w2156
                      refine o_cons ?_
                      refine o_tup ?_
                      refine o_cons ?_
                      refine o_op ?_
                      refine o_op ?_
                      refine o_var rfl ?_
                      refine o_call ?_
                      refine o_cons ?_
                      refine o_var rfl ?_
                      refine o_cons ?_
                      obtain ⟨x2165, hx2166, hb2131⟩ := bindS hb2131
                      refine c_i w2156 (Sim.E.s scI (e_cb rc_lenL (ea_cons (e_var (R := (rL (rP rS rI))) (x := s2129.2) rfl (w2156.rlAt (i := 0) rfl)) ea_nil))) hx2166 ?_
                      intro H2167 w2168
                      refine o_nil ?_
                      obtain ⟨x2170, hx2171, hb2131⟩ := bindS hb2131
                      refine c_p1 (i := 3) (j := (x2165, ())) w2168 rfl ⟨_, _, rfl, rfl, rfl⟩ hx2171 ?_
                      intro u2172 H2173 G2174 w2175 e2176 r2177
                      have h2178 := Rep.mono _ e2176 h2159
                      have h2179 := Rep.mono _ e2176 h2160
                      have h2180 := Rep.mono _ e2176 h2161
                      have h2181 := Rep.mono _ e2176 h2162
                      have h2182 := Rep.mono _ e2176 h2163
                      cases r2177
                      have w2175 : Wo G H [] G2174 H2173 [(p2052, cL (rP rS rI) s2129.2), (p1764, cL (rP rS rI) handed_1911), (p1632, cL rS s1669.2.2), (p1542, cL rI x2170.2)] := w2175
                      obtain ⟨x2183, hx2184, hb2131⟩ := bindS hb2131
                      refine c_ixC (j := 0) w2175 rfl hx2184 ?_
                      intro v2185 r2186
                      obtain ⟨x2188, hx2189, hb2131⟩ := bindS hb2131
                      refine c_i w2175 e_int hx2189 ?_
                      intro H2190 w2191
                      obtain ⟨x2192, hx2193, hb2131⟩ := bindS hb2131
                      refine c_rr rr_fst w2191 r2186 rfl hx2193 ?_
                      intro u2194 H2195 G2196 w2197 e2198 r2199
                      have h2200 := Rep.mono _ e2198 h2178
                      have h2201 := Rep.mono _ e2198 h2179
                      have h2202 := Rep.mono _ e2198 h2180
                      have h2203 := Rep.mono _ e2198 h2181
                      have h2204 := Rep.mono _ e2198 h2182
                      have h2205 := Rep.mono _ e2198 r2186
                      cases r2199
                      refine o_cons ?_
                      refine o_call ?_
                      refine o_cons ?_
                      refine o_var rfl ?_
                      refine o_nil ?_
                      obtain ⟨x2207, hx2208, hb2131⟩ := bindS hb2131
                      refine c_p1 (i := 3) (j := ()) w2197 rfl rfl hx2208 ?_
                      intro u2209 H2210 G2211 w2212 e2213 r2214
                      have h2215 := Rep.mono _ e2213 h2200
                      have h2216 := Rep.mono _ e2213 h2201
                      have h2217 := Rep.mono _ e2213 h2202
                      have h2218 := Rep.mono _ e2213 h2203
                      have h2219 := Rep.mono _ e2213 h2204
                      have h2220 := Rep.mono _ e2213 h2205
                      cases r2214
                      have w2212 : Wo G H [] G2211 H2210 [(p2052, cL (rP rS rI) s2129.2), (p1764, cL (rP rS rI) handed_1911), (p1632, cL rS s1669.2.2), (p1542, cL rI x2207.2)] := w2212
                      refine o_nil ?_
                      refine c_pairO (R := rS) (S := rI) (x := x2192) (y := x2207.1) w2212 rfl rfl ?_
                      intro v2222 H2227 G2223 w2224 e2225 h2226
                      have h2228 := Rep.mono _ e2225 h2215
                      have h2229 := Rep.mono _ e2225 h2216
                      have h2230 := Rep.mono _ e2225 h2217
                      have h2231 := Rep.mono _ e2225 h2218
                      have h2232 := Rep.mono _ e2225 h2219
                      have h2233 := Rep.mono _ e2225 h2220
                      refine o_nil ?_
                      obtain ⟨spoilt_2235, hx2236, hb2131⟩ := bindS hb2131
                      refine c_ins (j := 0) w2224 rfl h2226 hx2236 ?_
                      intro H2237 w2238
                      have w2238 : Wo G H [] G2223 H2237 [(p2052, cL (rP rS rI) spoilt_2235), (p1764, cL (rP rS rI) handed_1911), (p1632, cL rS s1669.2.2), (p1542, cL rI x2207.2)] := w2238
                      refine x_next ?_
                      have hb2131 : (x2207.2, spoilt_2235) = q2133 := Option.some.inj hb2131
                      subst hb2131
                      exact ⟨G2223, (x2207.2, spoilt_2235), (some (V.int x2139)), w2238, (((((e2136.trans e2157).trans e2176).trans e2198).trans e2213).trans e2225), rfl, hm2132⟩
                    · rintro σ' G2239 H2242 ⟨s2129, u2130, w2240, e2241, rfl, hm2132⟩
                      have hm2132 := forS_end hm2132
                      subst hm2132
                      have h2244 := Rep.mono _ e2241 h2118
                      have h2245 := Rep.mono _ e2241 h2119
                      have h2246 := Rep.mono _ e2241 h2120
                      have h2247 := Rep.mono _ e2241 h2121
                      have h2248 := Rep.mono _ e2241 h2122
                      obtain ⟨G2249, w2250, e2251, h2252⟩ := w2240.freezeAt (i := 0) rfl n2053
                      have h2253 := Rep.mono _ e2251 h2244
                      have h2254 := Rep.mono _ e2251 h2245
                      have h2255 := Rep.mono _ e2251 h2246
                      have h2256 := Rep.mono _ e2251 h2247
                      have h2257 := Rep.mono _ e2251 h2248
                      have w2250 : Wo G H [] G2249 H2242 [(p1764, cL (rP rS rI) handed_1911), (p1632, cL rS s1669.2.2), (p1542, cL rI s2129.1)] := w2250
                      obtain ⟨a2263, hx2264, h⟩ := bindS h
                      have h : a2263 = r := Option.some.inj h
                      subst h
                      exact x_ret w2250 (e_op rr_eqDD (e_call (ea_cons (e_var (R := rS) (x := x1617) rfl rfl) (ea_cons (e_var (R := (rL (rP rS rI))) (x := s2129.2) rfl h2252) (ea_cons (e_var (R := rI) (x := x1744.1) rfl rfl) ea_nil)))) (e_toDL (K := K) (EL.e (el_disp (eal_cons (e_toD (K := K) (e_call (ea_cons (e_var (R := (rL (rP rS rI))) (x := s2129.2) rfl h2252) ea_nil)) (dtO dtS) (by decide)) (eal_cons (e_toD (K := K) e_bl dtB (by decide)) (eal_cons (e_toD (K := K) e_bl dtB (by decide)) (eal_cons (e_toD (K := K) e_bl dtB (by decide)) eal_nil)))))))) (by first | (simp only [be1, bs1, ba1] at hx2264 ⊢; exact hx2264) | exact hx2264) (fun v9 H9 G9 w9 e9 r9 => k v9 H9 G9 w9.upE r9)
end
end My
namespace My
open PySem L2 Sim
section
variable {α β γ σ ρ : Type}
theorem bs {a : α} {f : α → Option β} : Option.bind (some a) f = f a := Eq.trans (Option.bind_some a f) (Eq.refl _)
def tab (n : Nat) (f : Nat → α) : List α := (List.range n).map f
theorem tab_len {n : Nat} {f : Nat → α} : (tab n f).length = n := by simp [tab]
theorem tab_get {n : Nat} {f : Nat → α} {i : Nat} (h : i < n) : (tab n f)[i]? = some (f i) := by
  simp [tab, List.getElem?_map, List.getElem?_range h]
theorem tab_mem {n : Nat} {f : Nat → α} {x : α} : x ∈ tab n f ↔ ∃ i, i < n ∧ f i = x := by simp [tab]
theorem tab_congr {n : Nat} {f g : Nat → α} (h : ∀ i < n, f i = g i) : tab n f = tab n g :=
  List.map_congr_left fun i hi => h i (List.mem_range.mp hi)
theorem ixN_nat {n i : Nat} (h : i < n) : ixN n (i : Int) = some i := by
  unfold ixN
  rw [if_pos (by omega), if_pos (by omega)]
  rfl
theorem atI_nat {xs : List α} {i : Nat} (h : i < xs.length) : atI xs (i : Int) = some xs[i] := by
  unfold atI
  rw [ixN_nat h]
  exact List.getElem?_eq_getElem h
theorem atI_tab {n : Nat} {f : Nat → α} {i : Nat} (h : i < n) : atI (tab n f) (i : Int) = some (f i) := by
  unfold atI
  rw [ixN_nat (by rw [tab_len]; exact h)]
  exact tab_get h
theorem rngM0 {n : Nat} (h : n ≤ 100000) : rngM 0 (n : Int) = some (tab n fun i => (i : Int)) := by
  unfold rngM
  rw [if_pos (by omega)]
  unfold rng tab
  simp
theorem rngM1 {i n : Nat} (h : n ≤ 100000) (h' : i ≤ 100000) : rngM ((i : Int)) (n : Int) = some (tab (n - i) fun k => ((i + k : Nat) : Int)) := by
  unfold rngM
  rw [if_pos (by omega)]
  unfold rng tab
  have : ((n : Int) - (i : Int)).toNat = n - i := by omega
  rw [this]
  simp
theorem mapO_map {f : β → Option γ} {a : α → β} {g : α → γ} : ∀ {xs : List α}, (∀ x ∈ xs, f (a x) = some (g x)) → mapO f (xs.map a) = some (xs.map g)
  | [], _ => rfl
  | x :: xs, h => by
    show (f (a x) >>= fun y => mapO f (xs.map a) >>= fun ys => some (y :: ys)) = _
    rw [h x (List.mem_cons_self ..), mapO_map (fun y hy => h y (List.mem_cons_of_mem _ hy))]
    rfl
theorem lcM_map {p' : β → Option Bool} {f : β → Option γ} {a : α → β} {p : α → Bool} {g : α → γ} : ∀ {xs : List α}, (∀ x ∈ xs, p' (a x) = some (p x)) → (∀ x ∈ xs, f (a x) = some (g x)) →
    lcM p' f (xs.map a) = some ((xs.filter p).map g)
  | [], _, _ => rfl
  | x :: xs, h, h' => by
    show (p' (a x) >>= fun b => bif b then f (a x) >>= fun y => lcM p' f (xs.map a) >>= fun ys => some (y :: ys) else lcM p' f (xs.map a)) = _
    rw [h x (List.mem_cons_self ..), lcM_map (fun y hy => h y (List.mem_cons_of_mem _ hy)) (fun y hy => h' y (List.mem_cons_of_mem _ hy)), h' x (List.mem_cons_self ..)]
    cases e : p x <;> simp [List.filter_cons, e]
theorem sz_t {n : Nat} (h : n < 100000) : sz n = true := by simp [sz, h]
theorem mapS_tab {n : Nat} {a : Nat → β} {f : β → Option γ} {g : Nat → γ} (hn : n < 100000) (h : ∀ i < n, f (a i) = some (g i)) : mapS f (tab n a) = some (tab n g) := by
  unfold mapS
  rw [tab_len, sz_t hn]
  exact mapO_map fun x hx => h x (List.mem_range.mp hx)
theorem mapS_map {xs : List α} {f : α → Option β} {g : α → β} (hn : xs.length < 100000) (h : ∀ x ∈ xs, f x = some (g x)) : mapS f xs = some (xs.map g) := by
  unfold mapS
  rw [sz_t hn]
  have := mapO_map (f := f) (a := id) (g := g) (xs := xs) h
  rwa [List.map_id] at this
theorem lcS_tab {n : Nat} {a : Nat → β} {p' : β → Option Bool} {f : β → Option γ} {p : Nat → Bool} {g : Nat → γ} (hn : n < 100000) (h : ∀ i < n, p' (a i) = some (p i)) (h' : ∀ i < n, f (a i) = some (g i)) :
    lcS p' f (tab n a) = some (((List.range n).filter p).map g) := by
  unfold lcS
  rw [tab_len, sz_t hn]
  exact lcM_map (fun x hx => h x (List.mem_range.mp hx)) (fun x hx => h' x (List.mem_range.mp hx))
theorem lcS_map {xs : List α} {a : α → β} {p' : β → Option Bool} {f : β → Option γ} {p : α → Bool} {g : α → γ} (hn : xs.length < 100000) (h : ∀ x ∈ xs, p' (a x) = some (p x)) (h' : ∀ x ∈ xs, f (a x) = some (g x)) :
    lcS p' f (xs.map a) = some ((xs.filter p).map g) := by
  unfold lcS
  rw [List.length_map, sz_t hn]
  exact lcM_map h h'
theorem forL_nx {body : α → Unit → Option (Stp Unit ρ)} : ∀ {xs : List α}, (∀ x ∈ xs, body x () = some (.nx ())) → forL body xs () = some (.inl ())
  | [], _ => rfl
  | x :: xs, h => by
    show (body x () >>= stpK (forL body xs)) = _
    rw [h x (List.mem_cons_self ..)]
    exact forL_nx fun y hy => h y (List.mem_cons_of_mem _ hy)
theorem forL_nxT {body : α → Unit → Option (Stp Unit ρ)} {n : Nat} {a : Nat → α} (h : ∀ i < n, body (a i) () = some (.nx ())) : forL body (tab n a) () = some (.inl ()) :=
  forL_nx fun x hx => by obtain ⟨i, hi, rfl⟩ := tab_mem.mp hx; exact h i hi
theorem forL_find {body : β → Unit → Option (Stp Unit ρ)} {a : α → β} {p : α → Bool} {g : α → ρ} : ∀ {xs : List α}, (∀ x ∈ xs, body (a x) () = some (bif p x then .rt (g x) else .nx ())) →
    forL body (xs.map a) () = some (match xs.find? p with | some x => .inr (g x) | none => .inl ())
  | [], _ => rfl
  | x :: xs, h => by
    show (body (a x) () >>= stpK (forL body (xs.map a))) = _
    rw [h x (List.mem_cons_self ..)]
    cases e : p x
    · rw [List.find?_cons, e]
      exact forL_find fun y hy => h y (List.mem_cons_of_mem _ hy)
    · rw [List.find?_cons, e]; rfl
theorem forS_un {body : α → Unit → Option Unit} : ∀ {xs : List α}, (∀ x ∈ xs, body x () = some ()) → forS body xs () = some ()
  | [], _ => rfl
  | x :: xs, h => by
    show (body x () >>= forS body xs) = _
    rw [h x (List.mem_cons_self ..)]
    exact forS_un fun y hy => h y (List.mem_cons_of_mem _ hy)
/-- a loop that keeps something -/
theorem forS_keep {body : α → σ → Option σ} {I : Nat → σ → Prop} : ∀ {xs : List α} {k : Nat} {s : σ}, I k s → (∀ x ∈ xs, ∀ j s, k ≤ j → j < k + xs.length → I j s → ∃ s', body x s = some s' ∧ I (j + 1) s') →
    ∃ s', forS body xs s = some s' ∧ I (k + xs.length) s'
  | [], k, s, h, _ => ⟨s, rfl, h⟩
  | x :: xs, k, s, h, hs => by
    obtain ⟨s1, e1, h1⟩ := hs x (List.mem_cons_self ..) k s (Nat.le_refl _) (by simp) h
    obtain ⟨s2, e2, h2⟩ := forS_keep (xs := xs) (k := k + 1) h1 fun y hy j t hj hj' => hs y (List.mem_cons_of_mem _ hy) j t (by omega) (by simp; omega)
    refine ⟨s2, ?_, ?_⟩
    · show (body x s >>= forS body xs) = _
      rw [e1]; exact e2
    · have : k + (x :: xs).length = k + 1 + xs.length := by simp; omega
      rw [this]; exact h2
/-- a loop whose k-th state is told -/
theorem forS_tab {body : α → σ → Option σ} {a : Nat → α} {S : Nat → σ} {n : Nat} (h : ∀ i < n, body (a i) (S i) = some (S (i + 1))) : forS body (tab n a) (S 0) = some (S n) := by
  suffices h' : ∀ m k, k + m = n → forS body ((List.range' k m).map a) (S k) = some (S n) by
    have := h' n 0 (by omega)
    rw [← List.range_eq_range'] at this
    exact this
  intro m
  induction m with
  | zero => intro k hk; have : k = n := by omega
            subst this; rfl
  | succ m ih =>
    intro k hk
    show (body (a k) (S k) >>= forS body ((List.range' (k + 1) m).map a)) = _
    rw [h k (by omega)]
    exact ih (k + 1) (by omega)
end

abbrev tab2 (n : Nat) (R : Nat → Nat → α) : List (List α) := tab n fun a => tab n fun b => R a b
theorem atI2 {n : Nat} {R : Nat → Nat → α} {a b : Nat} (ha : a < n) (hb : b < n) : (atI (tab2 n R) (a : Int) >>= fun t => atI t (b : Int)) = some (R a b) := by
  rw [atI_tab ha]
  exact atI_tab hb
theorem tab2_congr {n : Nat} {R S : Nat → Nat → α} (h : ∀ a < n, ∀ b < n, R a b = S a b) : tab2 n R = tab2 n S :=
  tab_congr fun a ha => tab_congr fun b hb => h a ha b hb
theorem mul_small {a b : Nat} (ha : a ≤ 12) : mulM (a : Int) (b : Int) = some (((a * b : Nat)) : Int) := by
  unfold mulM
  rw [if_pos (Or.inl (by omega))]
  simp
/-- the pairs lie below n -/
def InR (n : Nat) (ps : List (Int × Int)) : Prop := ∀ p ∈ ps, ∃ a b : Nat, a < n ∧ b < n ∧ p = ((a : Int), (b : Int))
theorem InR.tail {n : Nat} {p} {ps : List (Int × Int)} (h : InR n (p :: ps)) : InR n ps := fun q hq => h q (List.mem_cons_of_mem _ hq)
theorem ix_lt {n a b : Nat} (ha : a < n) (hb : b < n) : a * n + b < n * n := by
  have : (a + 1) * n ≤ n * n := Nat.mul_le_mul_right n ha
  rw [Nat.succ_mul] at this
  omega
theorem ix_inj {n a b c d : Nat} (hb : b < n) (hd : d < n) (h : a * n + b = c * n + d) : a = c ∧ b = d := by
  have e : (a * n + b) / n = (c * n + d) / n := by rw [h]
  have e2 : (a * n + b) % n = (c * n + d) % n := by rw [h]
  rw [Nat.mul_comm a n, Nat.mul_comm c n, Nat.mul_add_div (by omega), Nat.mul_add_div (by omega), Nat.div_eq_of_lt hb, Nat.div_eq_of_lt hd] at e
  rw [Nat.mul_comm a n, Nat.mul_comm c n, Nat.mul_add_mod, Nat.mul_add_mod, Nat.mod_eq_of_lt hb, Nat.mod_eq_of_lt hd] at e2
  exact ⟨by omega, e2⟩
/-! pop -/
section
open PyProof.Rows
theorem ixN_popAt {n k : Nat} (h : k < n) : seqIndex? (k : Int) n = some k := by
  unfold seqIndex?
  have : ¬ ((k : Int) < 0) := by omega
  simp only [this, if_false]
  have h2 : (decide (0 ≤ (k : Int)) && decide ((k : Int) < (n : Int))) = true := by simp; exact h
  rw [if_pos h2]
  rfl
theorem perm_erase {α : Type} : ∀ {xs : List α} {k : Nat} (h : k < xs.length), xs.Perm (xs[k] :: xs.eraseIdx k)
  | x :: xs, 0, _ => .refl _
  | x :: xs, k + 1, h => by
    have h : k < xs.length := by simpa using h
    exact ((perm_erase h).cons x).trans (.swap ..)
/-- a list drawn out in another order -/
theorem popAt_eq {α : Type} {xs : List α} {k : Nat} (h : k < xs.length) (h2 : xs.length < 100000) : popAtM xs (k : Int) = some (xs[k], xs.eraseIdx k) := by
  unfold popAtM
  rw [if_pos (by omega), ixN_popAt h]
  simp only [Option.bind_eq_bind, bs]
  rw [List.getElem?_eq_getElem h]
  rfl
end
end My

namespace My
open PySem L2 Sim PyProof.Rows
/-! ### the pot -/
theorem draw_eq (pot : List Int) {n : Nat} (h : 0 < n) : ∃ (v : Nat) (pot' : List Int), m__law_draw pot (n : Int) = some ((v : Int), pot') ∧ v < n := by
  unfold m__law_draw
  cases e : ((pot.length : Int) == 0) with
  | true => exact ⟨0, pot, rfl, h⟩
  | false =>
    have h0 : 0 < pot.length := by rw [beq_eq_false_iff_ne] at e; omega
    simp only [Option.bind_eq_bind, bs, cond_false]
    unfold popM
    rw [List.getElem?_eq_getElem (show pot.length - 1 < pot.length by omega)]
    simp only [Option.bind_eq_bind, bs]
    unfold modM
    rw [if_pos (by omega)]
    have h1 := Int.emod_nonneg (pot[pot.length - 1]) (show (n : Int) ≠ 0 by omega)
    have h2 := Int.emod_lt_of_pos (pot[pot.length - 1]) (show (0 : Int) < n by omega)
    refine ⟨(pot[pot.length - 1] % (n : Int)).toNat, pot.dropLast, ?_, by omega⟩
    simp only [bs]
    rw [show (((pot[pot.length - 1] % (n : Int)).toNat : Nat) : Int) = pot[pot.length - 1] % (n : Int) by omega]
theorem draw_lit (pot : List Int) (n : Nat) (h : 0 < n) {z : Int} (hz : z = (n : Int)) : ∃ (v : Nat) (pot' : List Int), m__law_draw pot z = some ((v : Int), pot') ∧ v < n := by
  subst hz; exact draw_eq pot h
theorem pot_b2 {k : Nat} {x : Int} {s : List Int × Int} (h1 : s.1.length ≤ k) (hk : k < 100000) : ∃ s', m__law_pot_b2 x s = some s' ∧ s'.1.length ≤ k + 1 := by
  obtain ⟨p, r⟩ := s
  unfold m__law_pot_b2
  simp only [Option.bind_eq_bind, bs]
  have hd : fdivM r 100 = some (r / 100) := by unfold fdivM; rw [if_pos (by decide)]
  have hm : modM r 100 = some (r % 100) := by unfold modM; rw [if_pos (by decide)]
  have ha : appM p (r % 100) = some (p ++ [r % 100]) := by unfold appM; rw [sz_t (show p.length < 100000 from Nat.lt_of_le_of_lt h1 hk)]; rfl
  rw [hd, hm]
  have h1 : p.length ≤ k := h1
  cases (decide ((0 : Int) < r) || x == 0) with
  | true =>
    simp only [cond_true, bs, ha]
    exact ⟨_, rfl, by simp; exact h1⟩
  | false =>
    simp only [cond_false, bs]
    exact ⟨_, rfl, by simp; omega⟩
theorem pot_b1 {ns : List Int} {i k : Nat} {s : List Int} (hi : i < ns.length) (hi' : i < 63) (h1 : s.length ≤ k) (hk : k + 60 < 100000) : ∃ s', m__law_pot_b1 ns (i : Int) s = some s' ∧ s'.length ≤ k + 60 := by
  unfold m__law_pot_b1
  rw [atI_nat hi]
  simp only [Option.bind_eq_bind, bs]
  generalize hr : (if ns[i] < 0 then -ns[i] else ns[i]) = r
  have hr0 : 0 ≤ r := by rw [← hr]; split <;> omega
  have hp : powM 10 18 = some 1000000000000000000 := by decide
  rw [hp]
  simp only [bs]
  have loop : ∀ (m : Nat) (r : Int), m ≤ 60 → ∃ s', ((rngM 0 (m : Int)).bind fun xs1671 => (forS m__law_pot_b2 xs1671 (s, r)).bind fun s1676 => some s1676.1) = some s' ∧ s'.length ≤ k + 60 := by
    intro m r hm
    rw [rngM0 (by omega)]
    simp only [bs]
    obtain ⟨t, e, ht⟩ := forS_keep (body := m__law_pot_b2) (xs := tab m fun i => (i : Int)) (k := k) (I := fun j (s : List Int × Int) => s.1.length ≤ j) (s := (s, r)) h1 (by
      intro x _ j s hj hj' hs
      rw [tab_len] at hj'
      exact pot_b2 hs (by omega))
    rw [e]
    rw [tab_len] at ht
    exact ⟨_, rfl, by omega⟩
  cases e : decide (r < 1000000000000000000) with
  | false =>
    simp only [cond_false, bs]
    obtain ⟨s', e2, h2⟩ := loop 60 r (by omega)
    exact ⟨s', e2, h2⟩
  | true =>
    have hr1 : r < 1000000000000000000 := of_decide_eq_true e
    simp only [cond_true, bs]
    have k1 : mulM 2 r = some (2 * r) := by unfold mulM; rw [if_pos (by omega)]
    have k2 : mulM 2 (i : Int) = some (2 * (i : Int)) := by unfold mulM; rw [if_pos (by omega)]
    have k3 : ∀ z, mulM z (48271 + 2 * (i : Int)) = some (z * (48271 + 2 * (i : Int))) := fun z => by unfold mulM; rw [if_pos (by omega)]
    rw [k1, k2]
    simp only [bs]
    rw [k3]
    simp only [bs]
    have k4 : ∀ z, modM z 2147483647 = some (z % 2147483647) := fun z => by unfold modM; rw [if_pos (by decide)]
    have k5 : ∀ z, modM z 2147483629 = some (z % 2147483629) := fun z => by unfold modM; rw [if_pos (by decide)]
    rw [k4]
    simp only [bs]
    generalize hq : ((2 * r + if decide (ns[i] < 0) = true then (1 : Int) else 0) * (48271 + 2 * (i : Int))) % 2147483647 = q
    have q0 : 0 ≤ q := by rw [← hq]; exact Int.emod_nonneg _ (by decide)
    have q1 : q < 2147483647 := by rw [← hq]; exact Int.emod_lt_of_pos _ (by decide)
    have k6 : mulM q q = some (q * q) := by unfold mulM; rw [if_pos (by omega)]
    have k7 : mulM q (i : Int) = some (q * (i : Int)) := by unfold mulM; rw [if_pos (by omega)]
    rw [k6, k7]
    simp only [bs]
    rw [k5]
    simp only [bs]
    obtain ⟨s', e2, h2⟩ := loop 4 ((q * q + q * (i : Int)) % 2147483629) (by omega)
    exact ⟨s', e2, h2⟩
theorem pot_eq (ns : List Int) : ∃ p, m__law_pot ns = some p := by
  unfold m__law_pot
  simp only [Option.bind_eq_bind, bs]
  have hn : ∃ n : Nat, (if (63 : Int) < (ns.length : Int) then (63 : Int) else (ns.length : Int)) = (n : Int) ∧ n ≤ 63 ∧ n ≤ ns.length := by
    split
    · exact ⟨63, rfl, by omega, by omega⟩
    · exact ⟨ns.length, rfl, by omega, by omega⟩
  obtain ⟨n, e, h1, h2⟩ := hn
  rw [e, rngM0 (by omega)]
  simp only [bs]
  obtain ⟨t, e, ht⟩ := forS_keep (body := m__law_pot_b1 ns) (xs := tab n fun i => (i : Int)) (k := 0) (I := fun j (s : List Int) => s.length ≤ j * 60) (s := []) (by simp) (by
    intro x hx j s hj hj' hs
    rw [tab_len] at hj'
    obtain ⟨i, hi, rfl⟩ := tab_mem.mp hx
    obtain ⟨s', e1, h1⟩ := pot_b1 (ns := ns) (i := i) (k := j * 60) (s := s) (by omega) (by omega) hs (by omega)
    exact ⟨s', e1, by omega⟩)
  rw [e]
  exact ⟨_, rfl⟩

end My

namespace My
theorem sel {α β γ : Type} {f : α → γ} {g : β → γ} {a : α} : Sum.elim f g (Sum.inl a) = f a := Eq.trans (Eq.refl _) (Eq.refl _)
theorem ctr {α : Type} {a b : α} : (bif true then a else b) = a := Eq.trans (Eq.refl _) (Eq.refl _)
theorem cfa {α : Type} {a b : α} : (bif false then a else b) = b := Eq.trans (Eq.refl _) (Eq.refl _)
theorem isn {α : Type} : (none : Option α).isSome = false := Eq.trans (Eq.refl _) (Eq.refl _)
theorem iss {α : Type} {a : α} : (some a).isSome = true := Eq.trans (Eq.refl _) (Eq.refl _)
end My

namespace My
open PySem L2 Sim PyProof.Rows
/-! ### names -/
theorem lsub {α : Type} [DecidableEq α] : ∀ {l l2 : List α}, l.Nodup → (∀ x ∈ l, x ∈ l2) → l.length ≤ l2.length
  | [], _, _, _ => Nat.zero_le _
  | x :: xs, l2, h, hs => by
    have hx := hs x (List.mem_cons_self ..)
    obtain ⟨h1, h2⟩ := List.nodup_cons.mp h
    have := lsub (l := xs) (l2 := l2.erase x) h2 fun y hy => by
      have hne : y ≠ x := fun e => h1 (e ▸ hy)
      exact (List.mem_erase_of_ne hne).mpr (hs y (List.mem_cons_of_mem _ hy))
    rw [List.length_erase_of_mem hx] at this
    have := List.length_pos_of_mem hx
    simp only [List.length_cons]
    omega
theorem addS_ok {x y : Str} (h : x.length + y.length < 100000) : addS x y = some (x ++ y) := by unfold addS; rw [decide_eq_true h]; rfl
theorem len1 (c : Nat) : (⟨#[c]⟩ : Str).length = 1 := rfl
theorem mulS_ok (c : Nat) {v : Nat} (h : v < 4) : ∃ z, mulS ⟨#[c]⟩ (v : Int) = some z ∧ z.length ≤ 3 := by
  have hc : decide ((v : Int) < 100 ∧ -100 < (v : Int) ∧ (⟨#[c]⟩ : Str).length < 1000) = true := by
    rw [len1]; exact decide_eq_true ⟨by omega, by omega, by omega⟩
  unfold mulS
  rw [hc]
  refine ⟨_, rfl, ?_⟩
  rcases v with _ | _ | _ | _ | v
  · show 0 ≤ 3
    omega
  · show 1 ≤ 3
    omega
  · show 2 ≤ 3
    omega
  · show 3 ≤ 3
    omega
  · omega
theorem sgl : ("abcdefghijklmnopqrstuvwxyzABCDEFGHIJKLMNOPQRSTUVWXYZ0123456789" : Str).cps.toList.length = 62 := by decide +kernel
theorem ixS_ok {v : Nat} (h : v < 62) : ∃ c, ixS ("abcdefghijklmnopqrstuvwxyzABCDEFGHIJKLMNOPQRSTUVWXYZ0123456789" : Str) (v : Int) = some ⟨#[c]⟩ := by
  unfold ixS
  have e : ("abcdefghijklmnopqrstuvwxyzABCDEFGHIJKLMNOPQRSTUVWXYZ0123456789" : Str).length = 62 := by
    rw [← sgl]; rfl
  rw [e, decide_eq_true (by omega), ctr, atI_nat (by rw [sgl]; exact h)]
  exact ⟨_, rfl⟩
theorem any_mem {s : List Str} {z : Str} : (s.any fun y => y == z) = decide (z ∈ s) := by
  by_cases h : z ∈ s
  · rw [decide_eq_true h, List.any_eq_true]
    exact ⟨z, h, by simp⟩
  · rw [decide_eq_false h, List.any_eq_false]
    intro y hy
    simp
    rintro rfl
    exact h hy
/-- short, or with an x at its end -/
def Pr (z : Str) : Prop := z.length ≤ 4 ∨ z.cps.toList.getLast? = some 120
/-- what is known of a name behind j tries -/
def Nm (ns : List Str) (j : Nat) (z : Str) : Prop := Pr z ∧ z.length ≤ 10 + j ∧ (z ∉ ns ∨ ∃ l : List Str, l.Nodup ∧ l.length = j ∧ ∀ y ∈ l, y ∈ ns ∧ y.length < z.length)
theorem names_b2 {s : List Str × List Int} {x : Int} {j : Nat} {z : Str} (hj : j < 1000) (h : Nm s.1 j z) : ∃ z', m__law_names_b2 s x z = some z' ∧ Nm s.1 (j + 1) z' := by
  unfold m__law_names_b2
  simp only [Option.bind_eq_bind, bs]
  rw [any_mem]
  obtain ⟨h0, h1, h2⟩ := h
  by_cases hz : z ∈ s.1
  · have hx : ("x" : Str).length = 1 := rfl
    rw [decide_eq_true hz, ctr, addS_ok (by rw [hx]; omega)]
    simp only [bs]
    have hl : (z ++ ("x" : Str)).length = z.length + 1 := by rw [PySem.Str.length_append, hx]
    refine ⟨_, rfl, .inr (show (z.cps ++ #[120]).toList.getLast? = some 120 by simp), by rw [hl]; omega, .inr ?_⟩
    rcases h2 with h2 | ⟨l, l1, l2, l3⟩
    · exact absurd hz h2
    · refine ⟨z :: l, List.nodup_cons.mpr ⟨fun hm => absurd (l3 z hm).2 (Nat.lt_irrefl _), l1⟩, by rw [List.length_cons, l2], fun y hy => ?_⟩
      rw [hl]
      rcases List.mem_cons.mp hy with rfl | hy
      · exact ⟨hz, by omega⟩
      · exact ⟨(l3 y hy).1, by have := (l3 y hy).2; omega⟩
  · rw [decide_eq_false hz, cfa]
    exact ⟨_, rfl, h0, by omega, .inl hz⟩
theorem names_eqL (pot : List Int) {many : Nat} (hm : many ≤ 100) : ∃ ns pot', m__law_names pot (many : Int) = some (ns, pot') ∧ ns.Nodup ∧ ns.length = many ∧ ∀ y ∈ ns, Pr y ∧ y.length ≤ 200 := by
  unfold m__law_names
  simp only [Option.bind_eq_bind, bs]
  rw [rngM0 (by omega)]
  simp only [bs]
  suffices h : ∀ (k i : Nat) (s : List Str × List Int), i + k = many → s.1.Nodup → s.1.length = i → (∀ y ∈ s.1, Pr y ∧ y.length ≤ 200) → ∃ s', forS (m__law_names_b1 ("abcdefghijklmnopqrstuvwxyzABCDEFGHIJKLMNOPQRSTUVWXYZ0123456789" : Str)) ((List.range' i k).map fun i : Nat => (i : Int)) s = some s' ∧ s'.1.Nodup ∧ s'.1.length = many ∧ ∀ y ∈ s'.1, Pr y ∧ y.length ≤ 200 by
    obtain ⟨s', e, h1, h2⟩ := h many 0 ([], pot) (by omega) List.nodup_nil rfl (fun y hy => (nomatch hy))
    have e' : forS (m__law_names_b1 ("abcdefghijklmnopqrstuvwxyzABCDEFGHIJKLMNOPQRSTUVWXYZ0123456789" : Str)) (tab many fun i => (i : Int)) ([], pot) = some s' := by
      unfold tab
      rw [List.range_eq_range']
      exact e
    rw [e']
    exact ⟨_, _, rfl, h1, h2⟩
  intro k
  induction k with
  | zero => intro i s hi h1 h2 h0; exact ⟨s, rfl, h1, by omega, h0⟩
  | succ k ih =>
    intro i s hi h1 h2 h0
    obtain ⟨ns, p⟩ := s
    replace h0 : ∀ y ∈ ns, Pr y ∧ y.length ≤ 200 := h0
    replace h1 : ns.Nodup := h1
    replace h2 : ns.length = i := h2
    show ∃ s', (m__law_names_b1 _ (i : Int) (ns, p) >>= forS (m__law_names_b1 _) ((List.range' (i + 1) k).map fun i : Nat => (i : Int))) = some s' ∧ _
    have step : ∃ s', m__law_names_b1 ("abcdefghijklmnopqrstuvwxyzABCDEFGHIJKLMNOPQRSTUVWXYZ0123456789" : Str) (i : Int) (ns, p) = some s' ∧ s'.1.Nodup ∧ s'.1.length = i + 1 ∧ ∀ y ∈ s'.1, Pr y ∧ y.length ≤ 200 := by
      unfold m__law_names_b1
      simp only [Option.bind_eq_bind, bs]
      obtain ⟨a, p1, e, ha⟩ := draw_lit p 62 (by decide) (z := 62) rfl
      rw [e]
      simp only [bs]
      obtain ⟨c, e⟩ := ixS_ok ha
      rw [e]
      simp only [bs]
      obtain ⟨b, p2, e, hb⟩ := draw_lit p1 4 (by decide) (z := 4) rfl
      rw [e]
      simp only [bs]
      obtain ⟨z, e, hz⟩ := mulS_ok c hb
      rw [e]
      simp only [bs]
      obtain ⟨a', p3, e, ha'⟩ := draw_lit p2 62 (by decide) (z := 62) rfl
      rw [e]
      simp only [bs]
      obtain ⟨c', e⟩ := ixS_ok ha'
      rw [e]
      simp only [bs]
      rw [addS_ok (by rw [len1]; omega)]
      simp only [bs]
      rw [rngM0 (by omega)]
      simp only [bs]
      obtain ⟨z', e, h30, h3, h4⟩ := forS_keep (body := m__law_names_b2 (ns, p)) (xs := tab i fun i => (i : Int)) (k := 0) (I := Nm ns) (s := z ++ ⟨#[c']⟩) ⟨.inl (by rw [PySem.Str.length_append, len1]; omega), by rw [PySem.Str.length_append, len1]; omega, .inr ⟨[], List.nodup_nil, rfl, fun y hy => by cases hy⟩⟩ (fun x _ j s _ hj hs => names_b2 (s := (ns, p)) (by rw [tab_len] at hj; omega) hs)
      rw [e]
      simp only [bs]
      have h5 : z' ∉ ns := by
        rcases h4 with h4 | ⟨l, l1, l2, l3⟩
        · exact h4
        · intro hz'
          have := lsub (l := z' :: l) (l2 := ns) (List.nodup_cons.mpr ⟨fun hm => absurd (l3 z' hm).2 (Nat.lt_irrefl _), l1⟩) (fun y hy => by
            rcases List.mem_cons.mp hy with rfl | hy
            · exact hz'
            · exact (l3 y hy).1)
          rw [List.length_cons, l2, tab_len, h2] at this
          omega
      unfold appM
      rw [sz_t (by omega)]
      refine ⟨_, rfl, ?_, by simp [h2], fun y hy => ?_⟩
      · show (ns ++ [z']).Nodup
        rw [List.nodup_append]
        exact ⟨h1, by simp, fun x hx y hy => by
          rw [List.mem_singleton] at hy
          subst hy
          exact fun e => h5 (e ▸ hx)⟩
      · rcases List.mem_append.mp hy with hy | hy
        · exact h0 y hy
        · rw [List.mem_singleton.mp hy]
          exact ⟨h30, by rw [tab_len] at h3; omega⟩
    obtain ⟨s1, e, n1, n2, n3⟩ := step
    rw [e]
    exact ih (i + 1) s1 (by omega) n1 n2 n3
theorem names_eq (pot : List Int) {many : Nat} (hm : many ≤ 100) : ∃ ns pot', m__law_names pot (many : Int) = some (ns, pot') ∧ ns.Nodup ∧ ns.length = many := by
  obtain ⟨ns, p, e, h1, h2, _⟩ := names_eqL pot hm
  exact ⟨ns, p, e, h1, h2⟩
/-! ### tables -/
section
variable {α : Type}
theorem put_new {d : List (Str × α)} {k : Str} {x : α} (h : k ∉ d.map (·.1)) : putM d k x = d ++ [(k, x)] := by
  unfold putM
  rw [if_neg]
  intro h2
  obtain ⟨q, hq, e⟩ := List.any_eq_true.mp h2
  exact h (List.mem_map.mpr ⟨q, hq, of_decide_eq_true e⟩)
theorem put_old {d : List (Str × α)} {k : Str} {x : α} (h : k ∈ d.map (·.1)) : putM d k x = d.map fun q => if q.1 = k then (q.1, x) else q := by
  unfold putM
  rw [if_pos]
  obtain ⟨q, hq, e⟩ := List.mem_map.mp h
  exact List.any_eq_true.mpr ⟨q, hq, decide_eq_true e⟩
theorem put_keys {d : List (Str × α)} {k : Str} {x : α} : (putM d k x).map (·.1) = if k ∈ d.map (·.1) then d.map (·.1) else d.map (·.1) ++ [k] := by
  by_cases h : k ∈ d.map (·.1)
  · rw [put_old h, if_pos h, List.map_map]
    refine List.map_congr_left fun q _ => ?_
    show (if q.1 = k then (q.1, x) else q).1 = q.1
    split <;> rfl
  · rw [put_new h, if_neg h, List.map_append]; rfl
theorem put_mem {d : List (Str × α)} {k : Str} {x : α} {q : Str × α} (h : q ∈ putM d k x) : q ∈ d ∨ q = (k, x) := by
  by_cases hk : k ∈ d.map (·.1)
  · rw [put_old hk] at h
    obtain ⟨r, hr, e⟩ := List.mem_map.mp h
    by_cases e2 : r.1 = k
    · rw [if_pos e2] at e; subst e; right; rw [e2]
    · rw [if_neg e2] at e; subst e; exact .inl hr
  · rw [put_new hk] at h
    rcases List.mem_append.mp h with h | h
    · exact .inl h
    · exact .inr (List.mem_singleton.mp h)
theorem put_len {d : List (Str × α)} {k : Str} {x : α} : (putM d k x).length ≤ d.length + 1 := by
  have := congrArg List.length (put_keys (d := d) (k := k) (x := x))
  rw [List.length_map] at this
  rw [this]
  split <;> simp
theorem look_mem {d : List (Str × α)} {k : Str} {x : α} (h : lookM d k = some x) : (k, x) ∈ d := by
  unfold lookM at h
  cases e : d.find? fun q => decide (q.1 = k) with
  | none => rw [e] at h; cases h
  | some q =>
    rw [e] at h
    have h1 : q.1 = k := of_decide_eq_true (p := q.1 = k) (List.find?_some (p := fun q : Str × α => decide (q.1 = k)) e)
    have h2 := List.mem_of_find?_eq_some e
    have h3 : q.2 = x := Option.some.inj h
    rw [← h1, ← h3]
    exact h2
theorem look_nd : ∀ {d : List (Str × α)} {k : Str} {x : α}, (d.map (·.1)).Nodup → (k, x) ∈ d → lookM d k = some x
  | q :: d, k, x, nd, h => by
    obtain ⟨n1, n2⟩ := List.nodup_cons.mp nd
    unfold lookM
    rw [List.find?_cons]
    rcases List.mem_cons.mp h with rfl | h
    · rw [decide_eq_true rfl]; rfl
    · have hne : ¬ q.1 = k := fun e => n1 (List.mem_map.mpr ⟨(k, x), h, e.symm⟩)
      rw [decide_eq_false hne]
      exact look_nd n2 h
theorem putMM_ok {d : List (Str × α)} {k : Str} {x : α} (h : d.length < 100000) : putMM d k x = some (putM d k x) := by unfold putMM; rw [decide_eq_true h]; rfl
/-- a table of elements, of at most l entries -/
structure Tb (n l : Nat) (d : List (Str × Int)) : Prop where
  nd : (d.map (·.1)).Nodup
  rg : ∀ q ∈ d, ∃ a : Nat, a < n ∧ q.2 = (a : Int)
  ln : d.length ≤ l
theorem Tb.nil {n l : Nat} : Tb n l [] := ⟨List.nodup_nil, fun q hq => (nomatch hq), Nat.zero_le _⟩
theorem Tb.imp {n l l' : Nat} {d : List (Str × Int)} (t : Tb n l d) (h : l ≤ l') : Tb n l' d := ⟨t.nd, t.rg, Nat.le_trans t.ln h⟩
theorem Tb.put {n l a : Nat} {k : Str} {d : List (Str × Int)} (t : Tb n l d) (ha : a < n) : Tb n (l + 1) (putM d k (a : Int)) where
  nd := by
    rw [put_keys]
    split
    · exact t.nd
    · rename_i h
      rw [List.nodup_append]
      exact ⟨t.nd, by simp, fun x hx y hy => by
        rw [List.mem_singleton] at hy
        subst hy
        exact fun e => h (e ▸ hx)⟩
  rg q hq := by
    rcases put_mem hq with h | rfl
    · exact t.rg q h
    · exact ⟨a, ha, rfl⟩
  ln := Nat.le_trans put_len (Nat.add_le_add_right t.ln 1)
theorem Tb.get {n l a : Nat} {d : List (Str × Int)} (t : Tb n l d) (ha : a < n) (k : Str) : ∃ b : Nat, b < n ∧ (lookM d k).getD (a : Int) = (b : Int) := by
  cases e : lookM d k with
  | none => exact ⟨a, ha, rfl⟩
  | some x =>
    obtain ⟨b, hb, e2⟩ := t.rg _ (look_mem e)
    exact ⟨b, hb, e2⟩
/-- entry by entry made anew -/
theorem copy_loop {body : Str → List (Str × Int) → Option (List (Str × Int))} {d : List (Str × Int)} (nd : (d.map (·.1)).Nodup) (hl : d.length < 100000)
    (hb : ∀ k s, body k s = (lookM d k >>= fun x => putMM s k x)) : forS body (d.map (·.1)) [] = some d := by
  suffices h : ∀ (r s : List (Str × Int)), s ++ r = d → forS body (r.map (·.1)) s = some d from h d [] rfl
  intro r
  induction r with
  | nil => intro s e; rw [List.append_nil] at e; rw [e]; rfl
  | cons q r ih =>
    intro s e
    show (body q.1 s >>= forS body (r.map (·.1))) = some d
    have hq : (q.1, q.2) ∈ d := by rw [← e]; simp
    have hs : s.length < 100000 := by
      have := congrArg List.length e
      rw [List.length_append] at this
      omega
    have hn : q.1 ∉ s.map (·.1) := by
      rw [← e, List.map_append, List.map_cons, List.nodup_append] at nd
      exact fun hm => nd.2.2 q.1 hm q.1 (List.mem_cons_self ..) rfl
    rw [hb, look_nd nd hq]
    simp only [Option.bind_eq_bind, bs]
    rw [putMM_ok hs, put_new hn]
    simp only [bs]
    exact ih (s ++ [q]) (by rw [List.append_assoc]; exact e)
theorem same_self {d : List (Str × Int)} (nd : (d.map (·.1)).Nodup) : sameM d d = true := by
  unfold sameM
  rw [decide_eq_true rfl, Bool.true_and, List.all_eq_true]
  exact fun q hq => decide_eq_true (look_nd nd hq)
end
end My

namespace My
open PySem L2 Sim PyProof.Rows
/-! ### texts -/
theorem empA (x : Str) : Str.empty ++ x = x := Str.ext' (by rw [Str.cps_append]; show #[] ++ x.cps = x.cps; simp)
theorem appE (x : Str) : x ++ Str.empty = x := Str.ext' (by rw [Str.cps_append]; show x.cps ++ #[] = x.cps; simp)
def sI (i : Int) : Str := (toString i : String)
theorem sI_len {i : Int} (h : i.natAbs < 2 ^ 64) : (sI i).length ≤ 1921 := PyProof.Rows.int_text_len_1921 (by
  by_cases h0 : i.natAbs = 0
  · rw [h0]; decide
  · have : i.natAbs.log2 < 64 := (Nat.log2_lt h0).mpr h
    omega)
theorem strI_ok {i : Int} (h : i.natAbs < 2 ^ 64) : strI i = some (sI i) := by unfold strI; rw [decide_eq_true h]; rfl
theorem szS_ok {y : Str} (h : y.length < 100000) : szS y = some y := by unfold szS; rw [decide_eq_true h]; rfl
/-- one behind the other -/
def cat : List Str → Str
  | [] => Str.empty
  | p :: ps => p ++ cat ps
theorem join_cat : ∀ ys : List Str, Str.join Str.empty ys = cat ys
  | [] => rfl
  | [x] => (appE x).symm
  | x :: y :: r => by
    show x ++ Str.empty ++ Str.join Str.empty (y :: r) = x ++ cat (y :: r)
    rw [appE, join_cat (y :: r)]
theorem joinS_ok {ys : List Str} (h : (ys.map (·.length)).sum < 100000) : joinS ("" : Str) ys = some (cat ys) := by
  unfold joinS
  have e0 : ("" : Str) = Str.empty := rfl
  rw [e0]
  have e1 : Str.empty.length = 0 := rfl
  rw [e1, Nat.mul_zero, Nat.add_zero, decide_eq_true h]
  show some (Txt.join Str.empty ys) = _
  rw [TL.join_eq, join_cat]
theorem cat_len : ∀ ys : List Str, (cat ys).length = (ys.map (·.length)).sum
  | [] => rfl
  | x :: r => by
    show (x ++ cat r).length = _
    rw [Str.length_append, cat_len r]; simp
end My

namespace My
open PySem L2 Sim PyProof.Rows
theorem appV {α : Type} {xs : List α} {x : α} (h : xs.length < 100000) : appM xs x = some (xs ++ [x]) := by unfold appM; rw [sz_t h]; rfl
theorem catV {α : Type} {xs ys : List α} (h : xs.length + ys.length < 100000) : catM xs ys = some (xs ++ ys) := by unfold catM; rw [decide_eq_true h]; rfl
theorem serV {α β γ : Type} {f : α → γ} {g : β → γ} {a : β} : Sum.elim f g (Sum.inr a) = g a := Eq.trans (Eq.refl _) (Eq.refl _)
theorem orFV {b : Option Bool} : orO (some false) b = b := rfl
/-! ### any value -/
theorem any_eq (pot : List Int) : ∃ (v : Nat) (p : List Int), m__law_any_value pot = some ((v : Int), p) ∧ v ≤ 10 ^ 17 := by
  unfold m__law_any_value
  simp only [Option.bind_eq_bind, bs]
  obtain ⟨v, p, e, hv⟩ := draw_lit pot 14 (by decide) (z := 14) rfl
  rw [e]
  simp only [bs]
  cases hb : ((v : Int) == 13) with
  | false => simp only [cfa, bs]; exact ⟨v, p, rfl, by omega⟩
  | true =>
    simp only [ctr]
    rw [show powM (10 : Int) (17 : Int) = some 100000000000000000 by rfl]
    exact ⟨100000000000000000, p, rfl, by omega⟩
/-! ### making a record -/
theorem copy_pairs (xs : List (Str × Int)) (h : xs.length < 100000) : lcS (fun _ => some true) (fun x : Str × Int => some (x.1, x.2)) xs = some xs := by
  rw [← mapS_eq, mapS_map (xs := xs) (g := fun x => x) (by omega) (fun _ _ => rfl), List.map_id']
theorem fstN {xs : List (Str × Int)} (h : xs.length < 100000) : lcS (fun _ => some true) (fun x : Str × Int => some x.1) xs = some (xs.map (·.1)) := by
  rw [← mapS_eq, mapS_map (xs := xs) (g := fun x => x.1) (by omega) (fun _ _ => rfl)]
theorem rec_loop {body : Str × Int → List Str → Option (List Str)} (hb : ∀ q s, q.1 ∉ s → s.length < 1000 → body q s = some (s ++ [q.1])) : ∀ (xs : List (Str × Int)) (s : List Str), (s ++ xs.map (·.1)).Nodup → s.length + xs.length < 1000 → ∃ s', forS body xs s = some s'
  | [], s, _, _ => ⟨s, rfl⟩
  | q :: xs, s, nd, hs => by
    rw [List.length_cons] at hs
    have hq : q.1 ∉ s := fun hm => by
      rw [List.nodup_append] at nd
      exact nd.2.2 q.1 hm q.1 (by simp) rfl
    show ∃ s', (body q s >>= forS body xs) = some s'
    rw [hb q s hq (by omega)]
    exact rec_loop hb xs (s ++ [q.1]) (by rw [List.append_assoc]; exact nd) (by rw [List.length_append, List.length_singleton]; omega)
section
variable {asks : List (Str × Int)} (nd : (asks.map (·.1)).Nodup) (hl : asks.length < 1000)
include nd hl
theorem rec_eq (nm : Str) (r : Int) : m_Record___init__ nm asks r = some ⟨nm, asks, r⟩ := by
  unfold m_Record___init__
  simp only [Option.bind_eq_bind, bs]
  obtain ⟨s', e⟩ := rec_loop (body := m_Record___init___b1) (fun q s hq hs => by
    unfold m_Record___init___b1
    rw [any_mem, decide_eq_false hq]
    simp only [Option.bind_eq_bind, bs, cfa]
    rw [appV (by omega)]; rfl) asks [] nd (by show 0 + asks.length < 1000; omega)
  rw [e]
  simp only [bs]
  rw [mapS_map (xs := asks) (g := fun x => x) (by omega) (fun _ _ => rfl)]
  simp only [bs, List.map_id']
theorem rec_eqT (nm : Str) (r : Int) : m_Record___init___T nm asks r = some ⟨nm, asks, r⟩ := by
  unfold m_Record___init___T
  simp only [Option.bind_eq_bind, bs]
  obtain ⟨s', e⟩ := rec_loop (body := m_Record___init___T_b1) (fun q s hq hs => by
    unfold m_Record___init___T_b1
    rw [any_mem, decide_eq_false hq]
    simp only [Option.bind_eq_bind, bs, cfa]
    rw [appV (by omega)]; rfl) asks [] nd (by show 0 + asks.length < 1000; omega)
  rw [e]
  simp only [bs]
  rw [copy_pairs asks (by omega)]
  rfl
theorem rec_eqC (nm : Str) (r : Int) : m_Record___init___C nm asks r = some ⟨nm, asks, r⟩ := by
  unfold m_Record___init___C
  simp only [Option.bind_eq_bind, bs]
  obtain ⟨s', e⟩ := rec_loop (body := m_Record___init___C_b1) (fun q s hq hs => by
    unfold m_Record___init___C_b1
    rw [any_mem, decide_eq_false hq]
    simp only [Option.bind_eq_bind, bs, cfa]
    rw [appV (by omega)]; rfl) asks [] nd (by show 0 + asks.length < 1000; omega)
  rw [e]
  simp only [bs]
  rw [copy_pairs asks (by omega)]
  rfl
end
/-! ### equal records -/
theorem eq_rec (a b : m_Record) : m_Record___eq__ a b = some (decide (a = b)) := by
  unfold m_Record___eq__
  simp only [Option.bind_eq_bind, bs, Bool.not_true, cfa]
  obtain ⟨a1, a2, a3⟩ := a
  obtain ⟨b1, b2, b3⟩ := b
  by_cases h1 : a1 = b1
  · by_cases h2 : a2 = b2
    · by_cases h3 : a3 = b3
      · subst h1 h2 h3; simp
      · simp [h3]
    · simp [h2]
  · simp [h1]
/-! ### what is kept -/
/-- the text of an ask -/
def pt (q : Str × Int) : Str := (" " : Str) ++ (q.1 ++ (("=" : Str) ++ sI q.2))
structure Ok (asks : List (Str × Int)) : Prop where
  nd : (asks.map (·.1)).Nodup
  ln : asks.length ≤ 10
  vs : ∀ q ∈ asks, q.1.length ≤ 200 ∧ q.2.natAbs < 2 ^ 64
theorem one_len (z : String) (h : z = " " ∨ z = "=" ∨ z = ":") : (z : Str).length = 1 := by rcases h with rfl | rfl | rfl <;> rfl
theorem arr_len : (" -> " : Str).length = 4 := rfl
theorem pt_len {q : Str × Int} (h : q.1.length ≤ 200 ∧ q.2.natAbs < 2 ^ 64) : (pt q).length ≤ 2200 := by
  unfold pt
  have := sI_len h.2
  rw [Str.length_append, Str.length_append, Str.length_append, one_len " " (by simp), one_len "=" (by simp)]
  omega
theorem sum_le : ∀ {ys : List Str}, (∀ y ∈ ys, y.length ≤ 2200) → (ys.map (·.length)).sum ≤ ys.length * 2200
  | [], _ => Nat.le_refl _
  | y :: ys, h => by
    have h1 := h y (List.mem_cons_self ..)
    have h2 := sum_le (ys := ys) fun z hz => h z (List.mem_cons_of_mem _ hz)
    rw [List.map_cons, List.sum_cons, List.length_cons, Nat.succ_mul]
    omega
theorem pts_sum {asks : List (Str × Int)} (h : Ok asks) : (((asks.map pt)).map (·.length)).sum ≤ 22000 := by
  have := sum_le (ys := asks.map pt) fun y hy => by
    obtain ⟨q, hq, rfl⟩ := List.mem_map.mp hy
    exact pt_len (h.vs q hq)
  rw [List.length_map] at this
  have := h.ln
  omega
theorem text_loop : ∀ {asks : List (Str × Int)} {t : Str}, (∀ q ∈ asks, q.1.length ≤ 200 ∧ q.2.natAbs < 2 ^ 64) → t.length + asks.length * 2200 < 90000 → forS m__law_record_kept_b3 asks t = some (t ++ cat (asks.map pt))
  | [], t, _, _ => by show some t = some (t ++ Str.empty); rw [appE]
  | q :: asks, t, hv, hl => by
    rw [List.length_cons, Nat.succ_mul] at hl
    have hq := hv q (List.mem_cons_self ..)
    have hp := pt_len hq
    have hs := sI_len hq.2
    have e1 := one_len " " (by simp)
    have e2 := one_len "=" (by simp)
    show (m__law_record_kept_b3 q t >>= forS m__law_record_kept_b3 asks) = _
    have st : m__law_record_kept_b3 q t = some (t ++ pt q) := by
      unfold m__law_record_kept_b3
      rw [addS_ok (by rw [e1]; omega)]
      simp only [Option.bind_eq_bind, bs]
      rw [addS_ok (by rw [Str.length_append, e1]; omega)]
      simp only [bs]
      rw [addS_ok (by rw [Str.length_append, Str.length_append, e1, e2]; omega)]
      simp only [bs]
      rw [strI_ok hq.2]
      simp only [bs]
      rw [addS_ok (by rw [Str.length_append, Str.length_append, Str.length_append, e1, e2]; omega)]
      simp only [bs, pt, Str.append_assoc]
    rw [st]
    show forS m__law_record_kept_b3 asks (t ++ pt q) = some (t ++ (pt q ++ cat (asks.map pt)))
    rw [text_loop (fun x hx => hv x (List.mem_cons_of_mem _ hx)) (by rw [Str.length_append]; omega), Str.append_assoc]
theorem part_eq {q : Str × Int} (hq : q.1.length ≤ 200 ∧ q.2.natAbs < 2 ^ 64) : fjS [some (" " : Str), szS q.1, some ("=" : Str), strI q.2] Str.empty = some (pt q) := by
  have hs := sI_len hq.2
  have e1 := one_len " " (by simp)
  have e2 := one_len "=" (by simp)
  have e0 : Str.empty.length = 0 := rfl
  simp only [fjS, Option.bind_eq_bind, bs]
  rw [addS_ok (by rw [e0, e1]; omega)]
  simp only [bs]
  rw [szS_ok (by omega)]
  simp only [bs]
  rw [addS_ok (by rw [Str.length_append, e0, e1]; omega)]
  simp only [bs]
  rw [addS_ok (by rw [Str.length_append, Str.length_append, e0, e1, e2]; omega)]
  simp only [bs]
  rw [strI_ok hq.2]
  simp only [bs]
  rw [addS_ok (by rw [Str.length_append, Str.length_append, Str.length_append, e0, e1, e2]; omega)]
  simp only [bs, pt, empA, Str.append_assoc]
/-- a record's text -/
def wr (r : m_Record) : Str := r.name ++ ((":" : Str) ++ (cat (r.asks.map pt) ++ ((" -> " : Str) ++ sI r.result)))
theorem written_eq {r : m_Record} (h : Ok r.asks) (hn : r.name.length ≤ 300) (hr : r.result.natAbs < 2 ^ 64) : m_Record_written r = some (wr r) := by
  have hl := h.ln
  have hs := sI_len hr
  have hc := pts_sum h
  have e0 : Str.empty.length = 0 := rfl
  have e3 := one_len ":" (by simp)
  unfold m_Record_written
  simp only [Option.bind_eq_bind, bs]
  rw [← mapS_eq, mapS_map (xs := r.asks) (g := pt) (by omega) (fun q hq => part_eq (h.vs q hq))]
  simp only [bs]
  have f1 : fjS [szS r.name, some (":" : Str)] Str.empty = some (r.name ++ (":" : Str)) := by
    simp only [fjS, Option.bind_eq_bind]
    rw [szS_ok (by omega)]
    simp only [bs]
    rw [addS_ok (by rw [e0]; omega)]
    simp only [bs]
    rw [addS_ok (by rw [Str.length_append, e0, e3]; omega)]
    simp only [bs, empA]
  have f2 : fjS [some (" -> " : Str), strI r.result] Str.empty = some ((" -> " : Str) ++ sI r.result) := by
    simp only [fjS, Option.bind_eq_bind, bs]
    rw [addS_ok (by rw [e0, arr_len]; omega)]
    simp only [bs]
    rw [strI_ok hr]
    simp only [bs]
    rw [addS_ok (by rw [Str.length_append, e0, arr_len]; omega)]
    simp only [bs, empA]
  rw [f1, f2, joinS_ok (by omega)]
  simp only [bs]
  rw [addS_ok (by rw [Str.length_append, cat_len, e3]; omega)]
  simp only [bs]
  rw [addS_ok (by rw [Str.length_append, Str.length_append, Str.length_append, cat_len, e3, arr_len]; omega)]
  simp only [bs, wr, Str.append_assoc]
theorem answer_ok (asks : List (Str × Int)) (k : Str) : ∃ o, m__law_answer asks k = some o := by
  unfold m__law_answer
  simp only [Option.bind_eq_bind, bs]
  have := forL_find (body := m__law_answer_b1 k) (a := fun q : Str × Int => q) (p := fun q => decide (q.1 = k)) (g := fun q => some q.2) (xs := asks) (fun q _ => by
    unfold m__law_answer_b1
    simp only [Option.bind_eq_bind, bs]
    cases decide (q.1 = k) <;> rfl)
  rw [List.map_id'] at this
  rw [this]
  cases asks.find? fun q => decide (q.1 = k) <;> exact ⟨_, rfl⟩
theorem answer_same (r : m_Record) (k : Str) : m_Record_answer r k = m__law_answer r.asks k := rfl
theorem kept_eq {ns : List Str} {ow : Str} {asks : List (Str × Int)} {r : Int} (h : Ok asks) (hn : ow.length ≤ 300) (hr : r.natAbs < 2 ^ 64) (hs : ns.length ≤ 100) : m__law_record_kept ⟨ow, asks, r⟩ ns ow asks r = some true := by
  have hl := h.ln
  have hcs := pts_sum h
  have e3 := one_len ":" (by simp)
  have hsi := sI_len hr
  unfold m__law_record_kept
  simp only [Option.bind_eq_bind, bs, decide_true, Bool.not_true, beq_self_eq_true, Bool.or_self, cfa]
  rw [rngM0 (by omega)]
  simp only [bs]
  rw [forL_nxT]
  · simp only [bs, sel]
    have ha : m_Record_asked ⟨ow, asks, r⟩ = some (asks.map (·.1)) := by
      unfold m_Record_asked
      simp only [Option.bind_eq_bind, bs]
      rw [fstN (by omega)]
      rfl
    rw [ha, mapS_map (xs := asks) (g := fun x => x.1) (by omega) (fun _ _ => rfl)]
    simp only [bs, decide_true, Bool.not_true, Bool.or_self, cfa]
    rw [appV (by rw [List.length_map]; omega)]
    have hi : m__law_int r = some true := rfl
    simp only [bs, hi, Bool.not_true, decide_true, orFV, beq_self_eq_true, cfa]
    rw [catV (by rw [List.length_singleton]; omega)]
    simp only [bs]
    rw [forL_nx]
    · simp only [bs, sel]
      rw [addS_ok (by rw [e3]; omega)]
      simp only [bs]
      rw [text_loop h.vs (by rw [Str.length_append, e3]; omega)]
      simp only [bs]
      rw [written_eq h hn hr]
      simp only [bs]
      rw [addS_ok (by rw [Str.length_append, Str.length_append, cat_len, e3, arr_len]; omega)]
      simp only [bs]
      rw [strI_ok hr]
      simp only [bs]
      rw [addS_ok (by rw [Str.length_append, Str.length_append, Str.length_append, cat_len, e3, arr_len]; omega)]
      simp only [bs, wr, Str.append_assoc, decide_true]
    · intro k hk
      unfold m__law_record_kept_b2
      obtain ⟨o, e⟩ := answer_ok asks k
      rw [answer_same, e]
      simp only [Option.bind_eq_bind, bs, decide_true, Bool.not_true, cfa]
  · intro i hi
    unfold m__law_record_kept_b1
    rw [atI_nat hi]
    have hi : ∀ x : Int, m__law_int x = some true := fun _ => rfl
    simp only [Option.bind_eq_bind, bs, hi, decide_true, Bool.not_true, orFV, cfa]
/-! ### slices -/
section
variable {α : Type} {q0 : α} {as : List α}
theorem cut1 : cutM (q0 :: as) (some 1) none = as := by
  unfold cutM
  have e1 : HT.sIx (q0 :: as).length 0 (some 1) = 1 := by
    have := HT.sIx_nat (q0 :: as).length 0 1
    rw [List.length_cons] at this ⊢
    rw [show (some (1 : Int)) = some ((1 : Nat) : Int) from rfl, this]; omega
  rw [e1, HT.sIx_none]
  show as.take ((q0 :: as).length - 1) = as
  rw [List.length_cons, Nat.add_sub_cancel, List.take_length]
theorem cut2 : cutM (q0 :: as) none (some 1) = [q0] := by
  unfold cutM
  have e1 : HT.sIx (q0 :: as).length (q0 :: as).length (some 1) = 1 := by
    have := HT.sIx_nat (q0 :: as).length (q0 :: as).length 1
    rw [show (some (1 : Int)) = some ((1 : Nat) : Int) from rfl, this, List.length_cons]; omega
  rw [e1, HT.sIx_none]
  rfl
theorem cut3 : cutM (q0 :: as) none (some (((q0 :: as).length : Int) - 1)) = (q0 :: as).take as.length := by
  unfold cutM
  have e1 : HT.sIx (q0 :: as).length (q0 :: as).length (some (((q0 :: as).length : Int) - 1)) = as.length := by
    have := HT.sIx_nat (q0 :: as).length (q0 :: as).length as.length
    rw [show (((q0 :: as).length : Int) - 1) = ((as.length : Nat) : Int) by rw [List.length_cons]; omega, this, List.length_cons]; omega
  rw [e1, HT.sIx_none]
  rfl
end
/-! ### records that differ -/
theorem unlike_eq {ow : Str} {asks : List (Str × Int)} {r : Int} (h : Ok asks) (hn : ow.length ≤ 300) (hx : ("stranger10" : Str) ∉ asks.map (·.1)) : ∃ os, m__law_unlike ow asks r = some os ∧ ∀ o ∈ os, o ≠ (⟨ow, asks, r⟩ : m_Record) := by
  have hl := h.ln
  have nd := h.nd
  have hy : ("y" : Str).length = 1 := rfl
  unfold m__law_unlike
  simp only [Option.bind_eq_bind]
  rw [rec_eq nd (by omega), addS_ok (by rw [hy]; omega)]
  simp only [bs]
  rw [rec_eq nd (by omega)]
  simp only [bs]
  rw [catV (by rw [List.length_singleton]; omega)]
  simp only [bs]
  rw [rec_eq (asks := asks ++ [(("stranger10" : Str), (0 : Int))]) (by
    rw [List.map_append, List.nodup_append]
    exact ⟨nd, by simp, fun x hx' y hy' => by
      have : y = ("stranger10" : Str) := by simpa using hy'
      rw [this]
      exact fun e => hx (e ▸ hx')⟩) (by rw [List.length_append, List.length_singleton]; omega)]
  simp only [bs]
  rw [appV (by show 2 < 100000; omega)]
  simp only [bs]
  have n1 : (⟨ow, asks, r + 1⟩ : m_Record) ≠ ⟨ow, asks, r⟩ := fun e => by
    have := congrArg m_Record.result e
    have : r + 1 = r := this
    omega
  have n2 : (⟨ow ++ ("y" : Str), asks, r⟩ : m_Record) ≠ ⟨ow, asks, r⟩ := fun e => by
    have := congrArg (fun z : m_Record => z.name.length) e
    have : (ow ++ ("y" : Str)).length = ow.length := this
    rw [Str.length_append, hy] at this
    omega
  have na : ∀ bs : List (Str × Int), bs ≠ asks → (⟨ow, bs, r⟩ : m_Record) ≠ ⟨ow, asks, r⟩ := fun bs hb e => hb (congrArg m_Record.asks e)
  have nl : ∀ bs : List (Str × Int), bs.length ≠ asks.length → (⟨ow, bs, r⟩ : m_Record) ≠ ⟨ow, asks, r⟩ := fun bs hb => na bs fun e => hb (by rw [e])
  have n3 := nl (asks ++ [(("stranger10" : Str), (0 : Int))]) (by rw [List.length_append, List.length_singleton]; omega)
  cases asks with
  | nil =>
    rw [show decide ((0 : Int) < (([] : List (Str × Int)).length : Int)) = false from rfl, show decide ((1 : Int) < (([] : List (Str × Int)).length : Int)) = false from rfl]
    simp only [cfa, bs]
    refine ⟨_, rfl, fun o ho => ?_⟩
    simp only [List.mem_append, List.mem_cons, List.not_mem_nil, or_false] at ho
    rcases ho with (rfl | rfl) | rfl
    · exact n1
    · exact n2
    · exact n3
  | cons q0 as =>
    rw [List.map_cons] at nd hx
    rw [List.length_cons] at hl
    obtain ⟨k1, k2⟩ := List.nodup_cons.mp nd
    have hx0 : ("stranger10" : Str) ≠ q0.1 := fun e => hx (e ▸ List.mem_cons_self ..)
    have hx1 : ("stranger10" : Str) ∉ as.map (·.1) := fun m => hx (List.mem_cons_of_mem _ m)
    have e0 : atI (q0 :: as) (0 : Int) = some q0 := atI_nat (i := 0) (by simp)
    have es : ∀ x : Str × Int, setM (q0 :: as) (0 : Int) x = some (x :: as) := fun x => by
      unfold setM
      rw [show (0 : Int) = ((0 : Nat) : Int) from rfl, ixN_nat (by simp)]
      rfl
    have t1 : decide ((0 : Int) < ((q0 :: as).length : Int)) = true := decide_eq_true (by rw [List.length_cons]; omega)
    rw [t1]
    simp only [ctr, e0, bs, es]
    rw [rec_eq (asks := (q0.1, q0.2 + 1) :: as) (by rw [List.map_cons]; exact nd) (by rw [List.length_cons]; omega)]
    simp only [bs]
    rw [appV (by show 3 < 100000; omega)]
    simp only [bs]
    rw [cut3, rec_eq (asks := (q0 :: as).take as.length) ((nd.sublist ((List.take_sublist ..).map _))) (by rw [List.length_take]; omega)]
    simp only [bs]
    rw [appV (by show 4 < 100000; omega), cut1]
    simp only [bs]
    rw [catV (by rw [List.length_singleton]; omega)]
    simp only [bs]
    rw [rec_eq (asks := [(("stranger10" : Str), q0.2)] ++ as) (List.nodup_cons.mpr ⟨hx1, k2⟩) (by rw [List.length_append, List.length_singleton]; omega)]
    simp only [bs]
    rw [appV (by show 5 < 100000; omega)]
    simp only [bs]
    have n4 := na ((q0.1, q0.2 + 1) :: as) (fun e => by
      have := congrArg (fun z : Str × Int => z.2) (List.cons.inj e).1
      have : q0.2 + 1 = q0.2 := this
      omega)
    have n5 := nl ((q0 :: as).take as.length) (by rw [List.length_take, List.length_cons]; omega)
    have n6 := na ([(("stranger10" : Str), q0.2)] ++ as) (fun e => hx0 (congrArg (fun z : Str × Int => z.1) (List.cons.inj e).1))
    cases as with
    | nil =>
      rw [show decide ((1 : Int) < (([q0] : List (Str × Int)).length : Int)) = false from rfl]
      simp only [cfa, bs]
      refine ⟨_, rfl, fun o ho => ?_⟩
      simp only [List.mem_append, List.mem_cons, List.not_mem_nil, or_false] at ho
      rcases ho with ((((rfl | rfl) | rfl) | rfl) | rfl) | rfl
      · exact n1
      · exact n2
      · exact n3
      · exact n4
      · exact n5
      · exact n6
    | cons q1 bs' =>
      rw [show decide ((1 : Int) < ((q0 :: q1 :: bs').length : Int)) = true from decide_eq_true (by rw [List.length_cons, List.length_cons]; omega), cut2]
      simp only [ctr]
      rw [List.length_cons] at hl
      rw [catV (by rw [List.length_singleton, List.length_cons]; omega)]
      simp only [bs]
      rw [rec_eq (asks := (q1 :: bs') ++ [q0]) (by
        have := (List.perm_append_singleton q0 (q1 :: bs')).map (·.1)
        exact this.nodup_iff.mpr (by rw [List.map_cons]; exact nd)) (by rw [List.length_append, List.length_cons, List.length_singleton]; omega)]
      simp only [bs]
      rw [appV (by show 6 < 100000; omega)]
      have n7 := na ((q1 :: bs') ++ [q0]) (fun e => by
        have := (List.cons.inj e).1
        rw [this] at k1
        exact k1 (by simp))
      refine ⟨_, rfl, fun o ho => ?_⟩
      simp only [List.mem_append, List.mem_cons, List.not_mem_nil, or_false] at ho
      rcases ho with (((((rfl | rfl) | rfl) | rfl) | rfl) | rfl) | rfl
      · exact n1
      · exact n2
      · exact n3
      · exact n4
      · exact n5
      · exact n6
      · exact n7
/-! ### a name twice -/
theorem rep_loop : ∀ (xs : List (Str × Int)) (s : List Str), s.length + xs.length < 1000 → s.Nodup →
    (∃ s', forL m_Record___init___X_b1 xs s = some (.inl s') ∧ (s ++ xs.map (·.1)).Nodup) ∨ ∃ a : Str, forL m_Record___init___X_b1 xs s = some (.inr (.inl ⟨"AskedTwice", [("name", .str a)]⟩)) ∧ forL m__law_repeated_b1 xs s = some (.inr (some a))
  | [], s, _, nd => .inl ⟨s, rfl, by rw [List.map_nil, List.append_nil]; exact nd⟩
  | q :: xs, s, hl, nd => by
    rw [List.length_cons] at hl
    show (∃ s', (m_Record___init___X_b1 q s >>= stpK (forL m_Record___init___X_b1 xs)) = some (.inl s') ∧ _) ∨ ∃ a : Str, (m_Record___init___X_b1 q s >>= stpK (forL m_Record___init___X_b1 xs)) = _ ∧ (m__law_repeated_b1 q s >>= stpK (forL m__law_repeated_b1 xs)) = _
    unfold m_Record___init___X_b1 m__law_repeated_b1
    rw [any_mem]
    simp only [Option.bind_eq_bind, bs]
    by_cases hq : q.1 ∈ s
    · rw [decide_eq_true hq]
      simp only [ctr, bs]
      exact .inr ⟨q.1, rfl, rfl⟩
    · rw [decide_eq_false hq]
      simp only [cfa]
      rw [appV (by omega)]
      simp only [bs]
      have := rep_loop xs (s ++ [q.1]) (by rw [List.length_append, List.length_singleton]; omega) (by
        rw [List.nodup_append]
        exact ⟨nd, by simp, fun x hx y hy => by
          rw [List.mem_singleton.mp hy]
          exact fun e => hq (e ▸ hx)⟩)
      rw [List.append_assoc] at this
      exact this
theorem twice_eq {ow : Str} {xs : List (Str × Int)} {r : Int} (hl : xs.length < 1000) (hd : ¬ (xs.map (·.1)).Nodup) : ∃ a : Str, m__law_twice_refused ow xs r = some (.list [.str a, .bool true, .bool false, .bool false]) ∧ m__law_repeated xs = some (some a) := by
  rcases rep_loop xs [] (by show 0 + xs.length < 1000; omega) List.nodup_nil with ⟨s', e, nd⟩ | ⟨a, e1, e2⟩
  · exact absurd nd hd
  · refine ⟨a, ?_, ?_⟩
    · unfold m__law_twice_refused m_Record___init___X
      simp only [Option.bind_eq_bind, bs]
      rw [e1]
      simp only [bs, serV, sel]
      rfl
    · unfold m__law_repeated
      simp only [Option.bind_eq_bind, bs]
      rw [e2]
      rfl
/-! ### the asks -/
structure AsksI (k : Nat) (ns : List Str) (s : List (Str × Int) × (List Int × List Str)) : Prop where
  pm : (s.1.map (·.1) ++ s.2.2).Perm ns
  rg : ∀ q ∈ s.1, ∃ a : Nat, a ≤ 10 ^ 17 ∧ q.2 = (a : Int)
  ln : s.1.length = k
theorem asks_b1 {k : Nat} {ns : List Str} {x : Int} {s : List (Str × Int) × (List Int × List Str)} (hk : k < ns.length) (hs : ns.length ≤ 100) (I : AsksI k ns s) : ∃ s', m_law_b1 x s = some s' ∧ AsksI (k + 1) ns s' := by
  obtain ⟨as, p, rest⟩ := s
  have h1 : (as.map (·.1) ++ rest).Perm ns := I.pm
  have h2 : as.length = k := I.ln
  have hr := h1.length_eq
  rw [List.length_append, List.length_map] at hr
  unfold m_law_b1
  simp only [Option.bind_eq_bind, bs]
  obtain ⟨v, p1, e, hv⟩ := draw_eq p (n := rest.length) (by omega)
  rw [e]
  simp only [bs]
  rw [popAt_eq hv (by omega)]
  simp only [bs]
  obtain ⟨a, p2, e, ha⟩ := any_eq p1
  rw [e]
  simp only [bs]
  rw [appV (by omega)]
  refine ⟨_, rfl, ?_, ?_, ?_⟩
  · show ((as ++ [(rest[v], (a : Int))]).map (·.1) ++ rest.eraseIdx v).Perm ns
    refine (List.Perm.trans ?_ h1)
    rw [List.map_append, List.append_assoc]
    exact List.Perm.append_left _ (perm_erase hv).symm
  · intro q hq
    rcases List.mem_append.mp hq with hq | hq
    · exact I.rg q hq
    · rw [List.mem_singleton.mp hq]
      exact ⟨a, ha, rfl⟩
  · show (as ++ [(rest[v], (a : Int))]).length = k + 1
    rw [List.length_append, h2]
    rfl
theorem spoil_b3 {x : Int} {j : Nat} {s : List Int × List (Str × Int)} (h1 : 1 ≤ s.2.length) (h2 : s.2.length ≤ 20 + j) (hj : j < 100) :
    ∃ s', m_law_b3 x s = some s' ∧ 1 ≤ s'.2.length ∧ s'.2.length ≤ 20 + (j + 1) ∧ ¬ (s'.2.map (·.1)).Nodup := by
  obtain ⟨p, sp⟩ := s
  replace h1 : 1 ≤ sp.length := h1
  replace h2 : sp.length ≤ 20 + j := h2
  unfold m_law_b3
  simp only [Option.bind_eq_bind, bs]
  obtain ⟨v, p1, e, hv⟩ := draw_eq p (n := sp.length + 1) (by omega)
  have e : m__law_draw p ((sp.length : Int) + 1) = some ((v : Int), p1) := e
  rw [e]
  simp only [bs]
  obtain ⟨k, p2, e, hk⟩ := draw_eq p1 (n := sp.length) (by omega)
  rw [e]
  simp only [bs]
  rw [atI_nat hk]
  simp only [bs, beq_self_eq_true, ctr]
  obtain ⟨a, p3, e, ha⟩ := any_eq p2
  rw [e]
  simp only [bs]
  unfold insM
  rw [if_pos ⟨sz_t (by omega), by omega, by omega⟩]
  refine ⟨_, rfl, ?_, ?_, ?_⟩
  · show 1 ≤ (sp.take (v : Int).toNat ++ [(sp[k].1, (a : Int))] ++ sp.drop (v : Int).toNat).length
    rw [List.length_append, List.length_append, List.length_singleton]; omega
  · show (sp.take (v : Int).toNat ++ [(sp[k].1, (a : Int))] ++ sp.drop (v : Int).toNat).length ≤ _
    rw [List.length_append, List.length_append, List.length_singleton, List.length_take, List.length_drop]; omega
  · show ¬ ((sp.take (v : Int).toNat ++ [(sp[k].1, (a : Int))] ++ sp.drop (v : Int).toNat).map (·.1)).Nodup
    intro nd
    have pm : (sp.take (v : Int).toNat ++ [(sp[k].1, (a : Int))] ++ sp.drop (v : Int).toNat).Perm ((sp[k].1, (a : Int)) :: sp) := by
      rw [List.append_assoc]
      refine List.perm_middle.trans ?_
      show ((sp[k].1, (a : Int)) :: (sp.take (v : Int).toNat ++ sp.drop (v : Int).toNat)).Perm _
      rw [List.take_append_drop]
    have := (pm.map (·.1)).nodup_iff.mp nd
    rw [List.map_cons] at this
    exact (List.nodup_cons.mp this).1 (List.mem_map.mpr ⟨sp[k], List.getElem_mem hk, rfl⟩)
theorem not_stranger {y : Str} (h : Pr y) : y ≠ ("stranger10" : Str) := by
  rintro rfl
  rcases h with h | h
  · exact absurd h (by decide +kernel)
  · exact absurd h (by decide +kernel)
theorem law_true (sc : List Int) : m_law sc = some true := by
  obtain ⟨pot, e⟩ := pot_eq sc
  unfold m_law
  rw [e]
  simp only [Option.bind_eq_bind, bs]
  obtain ⟨v, p2, e, hv⟩ := draw_lit pot 5 (by decide) (z := 5) rfl
  rw [e]
  simp only [bs]
  rw [show (1 : Int) + (v : Int) = ((1 + v : Nat) : Int) by omega]
  obtain ⟨ns, p3, e, nd, hs, hL⟩ := names_eqL p2 (many := 1 + v) (by omega)
  rw [e]
  simp only [bs]
  obtain ⟨a, p4, e, ha⟩ := draw_eq p3 (n := ns.length) (by omega)
  rw [e]
  simp only [bs]
  rw [atI_nat ha]
  simp only [bs]
  obtain ⟨k, p5, e, hk⟩ := draw_eq p4 (n := ns.length + 1) (by omega)
  have e : m__law_draw p4 ((ns.length : Int) + 1) = some ((k : Int), p5) := e
  rw [e]
  simp only [bs]
  rw [rngM0 (by omega)]
  simp only [bs]
  obtain ⟨s, e, hI⟩ := forS_keep (body := m_law_b1) (xs := tab k fun i => (i : Int)) (k := 0) (I := fun j s => AsksI j ns s) (s := ([], (p5, ns))) ⟨List.Perm.refl _, fun q hq => (nomatch hq), rfl⟩ (fun x _ j s _ hj hs' => by
    rw [tab_len] at hj
    exact asks_b1 (by omega) (by omega) hs')
  rw [e]
  simp only [bs]
  rw [tab_len, Nat.zero_add] at hI
  obtain ⟨asks, p6, rest⟩ := s
  have pm : (asks.map (·.1) ++ rest).Perm ns := hI.pm
  have hln : asks.length = k := hI.ln
  have hmem : ∀ q ∈ asks, q.1 ∈ ns := fun q hq => pm.mem_iff.mp (List.mem_append_left _ (List.mem_map.mpr ⟨q, hq, rfl⟩))
  have ok : Ok asks := ⟨(pm.nodup_iff.mpr nd).sublist (List.sublist_append_left ..), by omega, fun q hq => ⟨(hL _ (hmem q hq)).2, by
    obtain ⟨b, hb, eb⟩ := hI.rg q hq
    rw [eb]; omega⟩⟩
  have hx : ("stranger10" : Str) ∉ asks.map (·.1) := fun m => by
    obtain ⟨q, hq, e⟩ := List.mem_map.mp m
    exact not_stranger (hL _ (hmem q hq)).1 e
  clear e
  obtain ⟨r, p7, e, hr⟩ := any_eq p6
  rw [e]
  simp only [bs]
  have how : ns[a].length ≤ 300 := Nat.le_trans (hL _ (List.getElem_mem ha)).2 (by omega)
  have hrb : (r : Int).natAbs < 2 ^ 64 := by omega
  have hal : asks.length < 1000 := by omega
  rw [rec_eqC ok.nd hal]
  simp only [bs]
  obtain ⟨d, p8, e, hd⟩ := draw_lit p7 3 (by decide) (z := 3) rfl
  rw [e]
  simp only [bs, rec_eqT ok.nd hal]
  have e : (bif ((d : Int) == 1) then some (p8, (⟨ns[a], asks, (r : Int)⟩ : m_Record)) else some (p8, ⟨ns[a], asks, (r : Int)⟩)) = some (p8, ⟨ns[a], asks, (r : Int)⟩) := by cases ((d : Int) == 1) <;> rfl
  rw [e]
  simp only [bs]
  rw [kept_eq ok how hrb (by omega)]
  simp only [bs, Bool.not_true, decide_true, orFV, cfa]
  rw [appV (by omega)]
  simp only [bs]
  have e : ∃ hs', setM (asks ++ [(("stranger10" : Str), (1 : Int))]) (0 : Int) (("stranger11" : Str), (2 : Int)) = some hs' := by
    unfold setM
    rw [show (0 : Int) = ((0 : Nat) : Int) from rfl, ixN_nat (by simp)]
    exact ⟨_, rfl⟩
  obtain ⟨hs', e⟩ := e
  rw [e]
  simp only [bs, cfa, eq_rec, decide_true, beq_self_eq_true, Bool.not_true, orFV]
  obtain ⟨os, e, ho⟩ := unlike_eq (r := (r : Int)) ok how hx
  rw [e]
  simp only [bs]
  rw [forL_nx]
  · simp only [bs, sel]
    rw [written_eq (r := ⟨ns[a], asks, (r : Int)⟩) ok how hrb]
    simp only [bs]
    have q1 : m_Record___eq___S ⟨ns[a], asks, (r : Int)⟩ (wr ⟨ns[a], asks, (r : Int)⟩) = some false := rfl
    have q2 : ∀ t, m_Record___eq___T ⟨ns[a], asks, (r : Int)⟩ t = some false := fun t => rfl
    have q3 : m_Record___eq___I ⟨ns[a], asks, (r : Int)⟩ (r : Int) = some false := rfl
    rw [q1, q2, q3]
    simp only [bs, decide_true, Bool.not_true, cfa]
    have e0 : atI ns (0 : Int) = some ns[0] := atI_nat (i := 0) (by omega)
    rw [e0]
    simp only [bs]
    rw [catV (by rw [List.length_singleton]; omega)]
    simp only [bs]
    have e1 : ∃ sp : List (Str × Int), (bif ((asks.length : Int) == 0) then some [(ns[0], (0 : Int)), (ns[0], (0 : Int))] else some (asks ++ [(ns[0], (0 : Int))])) = some sp ∧ 1 ≤ sp.length ∧ sp.length ≤ 20 := by
      cases ((asks.length : Int) == 0) with
      | true => exact ⟨_, rfl, by show 1 ≤ 2; omega, by show 2 ≤ 20; omega⟩
      | false => exact ⟨_, rfl, by rw [List.length_append, List.length_singleton]; omega, by rw [List.length_append, List.length_singleton]; have := ok.ln; omega⟩
    obtain ⟨sp, e1, g1, g2⟩ := e1
    rw [e1]
    simp only [bs]
    obtain ⟨w, p9, e, hw⟩ := draw_lit p8 2 (by decide) (z := 2) rfl
    rw [e]
    simp only [bs]
    rw [show (1 : Int) + (w : Int) = ((1 + w : Nat) : Int) by omega, rngM0 (by omega)]
    simp only [bs]
    obtain ⟨s3, e, h3, h4, h5⟩ := forS_keep (body := m_law_b3) (xs := tab (1 + w) fun i => (i : Int)) (k := 0) (I := fun j s => 1 ≤ s.2.length ∧ s.2.length ≤ 20 + j ∧ (1 ≤ j → ¬ (s.2.map (·.1)).Nodup)) (s := (p9, sp)) ⟨g1, by show sp.length ≤ 20 + 0; omega, fun z => absurd z (by omega)⟩ (fun x _ j s _ hj hs' => by
      rw [tab_len] at hj
      obtain ⟨s', e, a1, a2, a3⟩ := spoil_b3 (x := x) hs'.1 hs'.2.1 (by omega)
      exact ⟨s', e, a1, a2, fun _ => a3⟩)
    rw [e]
    simp only [bs]
    rw [tab_len] at h4 h5
    obtain ⟨nm, f1, f2⟩ := twice_eq (ow := ns[a]) (xs := s3.2) (r := (r : Int)) (by omega) (h5 (by omega))
    rw [f1, f2]
    simp only [bs]
    have f3 : toDM (.list [dO PyData.str (some nm), .bool true, .bool false, .bool false]) = some (.list [.str nm, .bool true, .bool false, .bool false]) := rfl
    rw [f3]
    simp [PyData.eqv, PyData.eqvAll, bs]
  · intro o hoo
    unfold m_law_b2
    have z1 : decide ((⟨ns[a], asks, (r : Int)⟩ : m_Record) = o) = false := decide_eq_false fun e => ho o hoo e.symm
    have z2 : decide (o = (⟨ns[a], asks, (r : Int)⟩ : m_Record)) = false := decide_eq_false (ho o hoo)
    rw [eq_rec, eq_rec, z1, z2]
    rfl
end My

set_option maxHeartbeats 0
namespace My
open PySem PySem.Spec PyProof.Rows L2 Sim
abbrev Rw1 : PySem.W.OpenRow := PySem.W.OpenLaw.row PySem.Challenge.rw_askedpoints_k11_records
abbrev hk : PySem.W.Hook := hookX 5 fa fn ex xs gs P.main.file
def ob (s : PySem.W.SharedT) : AlX := obsXG 5 fa fn ex xs gs P.main.file (HandSHeadRun.getT s)
theorem ob_eq (s : PySem.W.SharedT) : ob s = hk.obs s.abs := obsXG_eq (HandSHeadRun.getT_eq s)
def loose0 : List PySem.Str := ["_wall", "AskedError", "AskedTwice", "Unanswered", "NoSide", "Record", "_law_pot", "_law_draw", "_law_int", "_law_names", "_law_any_value", "_law_answer", "_law_record_kept", "_law_unlike", "_law_repeated"]
def loose1 : List PySem.Str := ["_law_twice_refused"]
def loose : List PySem.Str := loose0 ++ (loose1)
theorem run (w : World) : HandSHeadRun.RunEq Rw1 (PySem.W.view Rw1.prog [19]) hk ob 9000 loose w := by
  intro os
  kernel_rfl
theorem glo_law (K : PySem.W.Frag) (mg : Str → Option Value) (T : Tx K mg) : mg "law" = some (.ref (He.ga K "law")) := T.glo 16 rfl
end My
open PySem PySem.W PySem.Calls PyProof.Rows
theorem PySem.Challenge.cw_askedpoints_k11_records_holds : PySem.Challenge.rw_askedpoints_k11_records.Holds := by
  w_on; o_law
  refine HandSHeadRun.head_any (r := OpenLaw.row PySem.Challenge.rw_askedpoints_k11_records) (q := view (OpenLaw.row PySem.Challenge.rw_askedpoints_k11_records).prog [19]) (H := My.hk) (ob := My.ob) (M := 9000) (loose := My.loose) (d := HandSHeadRun.topDef (OpenLaw.row PySem.Challenge.rw_askedpoints_k11_records).prog 19) (kwd := []) My.ob_eq
    (by kernel_rfl) (fun s => by kernel_rfl) My.run (by kernel_rfl) (by kernel_rfl) (by kernel_rfl) (by rfl) (by first | assumption | decide +kernel) (by decide +kernel) ⟨rfl, rfl, rfl, rfl, rfl, by decide +kernel⟩ ?hw ?hc
  case hw => w_witness2
  case hc =>
    refine L2.walk_ofE (l := PySem.Challenge.rw_askedpoints_k11_records) (n := 63) (k := 6) (x := "_law_script") (CX := L2.CX0) rfl (by decide) (by kernel_rfl) ⟨rfl, by decide, by decide⟩ ?F (fun _ _ _ _ z => z)
    intro w mg fa h Y G hmg0
    obtain ⟨K, KX, c⟩ := Y
    have T : My.Tx K mg := Sim.TxX.mk' KX G c
    have e : (HandSHeadRun.topDef (OpenLaw.row PySem.Challenge.rw_askedpoints_k11_records).prog 19).name = ("law" : PySem.Str) := by kernel_rfl
    rw [e, My.glo_law K mg T] at hmg0
    cases hmg0
    obtain ⟨fd, F, hF⟩ := My.ok_law (w := w) T
    exact ⟨K, fd, _, KX, fun s u => F.bindsA (ps := ["_law_script"]) (fun kV doc pm an cdv ct us hl => by (cases us with | nil => cases hl | cons a t => cases t with | nil => rfl | cons b t => cases hl)) s [u] rfl, fun H a ns hl _ hS => ⟨H, (ns, ()), true, Evl.Ex.refl _, ⟨.ref a, [], rfl, ⟨a, rfl, hS⟩, rfl⟩, My.law_true ns, fun v H2 G2 u hv => hv⟩, fun base _ _ => hF base⟩
