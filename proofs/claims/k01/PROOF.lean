import PyProof.Rows.All
import Wide.All
import OpenK.AllK
import Wide.FinOn
import HandS.ForMost
import HandS.Evl
import HandS.SortInts
import HandS.Wide
import HandS.More
import HandS.IsInst
import HandS.Defaults
import HandS.HeadHook1
import HandS.HeadHook2
import HandS.HeadHook3
import HandS.Exc
import HandS.Conv
import KE.KStateDown
import Lean
import HandS.WordsExc
import HandS.Head0
import HandS.Head1
import HandS.Head2
import HandS.HeadEnd
import PySem.Challenge.RW_askedpoints_k01_order_of_pairs
set_option Elab.async false
set_option linter.all false
set_option maxRecDepth 100000
/-! Sim: what a reading does, told by plain Lean data (mirrors). -/
namespace Sim
open PySem L2 Evl

/-! ### heaps: the data heap G below the heap H -/
structure Up (G H G2 H2 : Hp) : Prop where
  gg : Ex G G2
  gh : Ex G2 H2
  hh : Ex H H2
  nw : ∀ a, H a ≠ none → G a = none → G2 a = none
theorem Up.refl {G H : Hp} (e : Ex G H) : Up G H G H := ⟨Ex.refl _, e, Ex.refl _, fun _ _ h => h⟩
theorem Up.trans {G H G1 H1 G2 H2 : Hp} (a : Up G H G1 H1) (b : Up G1 H1 G2 H2) : Up G H G2 H2 :=
  ⟨a.gg.trans b.gg, b.gh, a.hh.trans b.hh, fun x h1 h2 => b.nw x (fun z => h1 (by
    cases q : H x with
    | none => rfl
    | some o => rw [a.hh x o q] at z; cases z)) (a.nw x h1 h2)⟩
/-- nothing new is data -/
theorem Up.same {G H H2 : Hp} (e : Ex G H) (h : Ex H H2) : Up G H G H2 := ⟨Ex.refl _, e.trans h, h, fun _ _ q => q⟩
theorem Up.lift {G Gw H G2 H2 : Hp} (u : Up G H G2 H2) (e1 : Ex G Gw) (e2 : Ex Gw H) : ∃ G3, Up Gw H G3 H2 ∧ Ex G2 G3 := by
  refine ⟨fun a => match H a with | none => G2 a | some _ => Gw a, ⟨fun a o h => ?_, fun a o h => ?_, u.hh, fun a h1 h2 => ?_⟩, fun a o h => ?_⟩
  · show (match H a with | none => G2 a | some _ => Gw a) = some o
    rw [e2 a o h]; exact h
  · have h' : (match H a with | none => G2 a | some _ => Gw a) = some o := h
    cases q : H a with
    | none => rw [q] at h'; exact u.gh a o h'
    | some o' =>
      rw [q] at h'
      exact u.hh a o (e2 a o h')
  · show (match H a with | none => G2 a | some _ => Gw a) = none
    cases q : H a with
    | none => exact absurd q h1
    | some o' => exact h2
  · show (match H a with | none => G2 a | some _ => Gw a) = some o
    cases q : H a with
    | none => exact h
    | some o' =>
      show Gw a = some o
      cases r : G a with
      | none => rw [u.nw a (by rw [q]; simp) r] at h; cases h
      | some o2 =>
        have := u.gg a o2 r
        rw [h] at this
        cases this
        exact e1 a _ r
theorem Up.lay {G H : Hp} {p : Addr} {o : HO} (e : Ex G H) (n : H p = none) : Up G H (upd G p o) (upd H p o) := by
  refine ⟨Ex.new (fresh_back e n), fun a u h => ?_, Ex.new n, fun a h1 h2 => ?_⟩
  · by_cases q : a = p
    · subst q; rw [upd_same] at h ⊢; exact h
    · rw [upd_ne q] at h ⊢; exact e a u h
  · by_cases q : a = p
    · subst q; exact absurd n h1
    · rw [upd_ne q]; exact h2

/-! ### data as it stands in a heap -/
structure Rep (α : Type) where
  r : Hp → V → α → Prop
  mono : ∀ {H H' : Hp} {v : V} {x : α}, Ex H H' → r H v x → r H' v x
/-- told by the value alone -/
def Rep.Sc {α : Type} (R : Rep α) : Prop := ∀ {H H' : Hp} {v : V} {x : α}, R.r H v x → R.r H' v x

def rI : Rep Int := ⟨fun _ v x => v = .int x, fun _ h => h⟩
def rB : Rep Bool := ⟨fun _ v x => v = .bl x, fun _ h => h⟩
def rS : Rep Str := ⟨fun _ v x => v = .str x, fun _ h => h⟩
def rU : Rep Unit := ⟨fun _ v _ => v = .non, fun _ h => h⟩
def rA : Rep Addr := ⟨fun _ v a => v = .ref a, fun _ h => h⟩
theorem scA : rA.Sc := fun h => h
theorem scI : rI.Sc := fun h => h
theorem scB : rB.Sc := fun h => h
theorem scS : rS.Sc := fun h => h
theorem scU : rU.Sc := fun h => h
def rL {α : Type} (R : Rep α) : Rep (List α) := ⟨fun H v xs => ∃ a vs, v = .ref a ∧ H a = some (.lst vs) ∧ Paired (R.r H) vs xs,
  fun e ⟨a, vs, h1, h2, h3⟩ => ⟨a, vs, h1, e a _ h2, Paired.mapP h3 fun _ _ => R.mono e⟩⟩
def rT {α : Type} (R : Rep α) : Rep (List α) := ⟨fun H v xs => ∃ a vs, v = .ref a ∧ H a = some (.tup vs) ∧ Paired (R.r H) vs xs,
  fun e ⟨a, vs, h1, h2, h3⟩ => ⟨a, vs, h1, e a _ h2, Paired.mapP h3 fun _ _ => R.mono e⟩⟩
def rP {α β : Type} (R : Rep α) (S : Rep β) : Rep (α × β) := ⟨fun H v p => ∃ a x y, v = .ref a ∧ H a = some (.tup [x, y]) ∧ R.r H x p.1 ∧ S.r H y p.2,
  fun e ⟨a, x, y, h1, h2, h3, h4⟩ => ⟨a, x, y, h1, e a _ h2, R.mono e h3, S.mono e h4⟩⟩
def rO {α : Type} (R : Rep α) : Rep (Option α) := ⟨fun H v o => match o with | none => v = .non | some x => R.r H v x,
  fun {H H' v o} e h => by cases o with | none => exact h | some x => exact R.mono e h⟩

theorem pr_get {R : V → α → Prop} : ∀ {vs : List V} {xs : List α} {i : Nat} {x : α}, Paired R vs xs → xs[i]? = some x → ∃ v, vs[i]? = some v ∧ R v x
  | _, _, _, _, .nil, e => by simp at e
  | _, _, 0, _, .cons r _, e => by simp at e; subst e; exact ⟨_, rfl, r⟩
  | _, _, i + 1, x, .cons _ t, e => by
    obtain ⟨u, h1, h2⟩ := pr_get (i := i) (x := x) t (by simpa using e)
    exact ⟨u, by simpa using h1, h2⟩
theorem pr_get' {R : V → α → Prop} : ∀ {vs : List V} {xs : List α} {i : Nat} {v : V}, Paired R vs xs → vs[i]? = some v → ∃ x, xs[i]? = some x ∧ R v x
  | _, _, _, _, .nil, e => by simp at e
  | _, _, 0, _, .cons r _, e => by simp at e; subst e; exact ⟨_, rfl, r⟩
  | _, _, i + 1, x, .cons _ t, e => by
    obtain ⟨u, h1, h2⟩ := pr_get' (i := i) (v := x) t (by simpa using e)
    exact ⟨u, by simpa using h1, h2⟩
theorem pr_app {R : V → α → Prop} : ∀ {vs : List V} {xs : List α} {vs' : List V} {xs' : List α}, Paired R vs xs → Paired R vs' xs' → Paired R (vs ++ vs') (xs ++ xs')
  | _, _, _, _, .nil, h => h
  | _, _, _, _, .cons r t, h => .cons r (pr_app t h)

/-! ### mirrors that may lack an answer -/
theorem bindS {α β : Type} {m : Option α} {f : α → Option β} {r : β} (h : (m >>= f) = some r) : ∃ x, m = some x ∧ f x = some r := by
  cases m with
  | none => exact absurd h (by simp)
  | some x => exact ⟨x, rfl, h⟩

/-! ### expressions -/
/-- te reads as m: the data heap is G, W is known to stand as well (cells that are only read) -/
def E {α : Type} (te : TE) (σ : L2.St) (G W : Hp) (R : Rep α) (m : Option α) : Prop :=
  ∀ x, m = some x → ∀ H, Ex G H → Ex W H → ∀ Q : VK, (∀ v H2 G2, Up G H G2 H2 → R.r G2 v x → Q v H2) → te σ H Q
def ET (tt : TT) (σ : L2.St) (W : Hp) (m : Option Bool) : Prop :=
  ∀ b, m = some b → ∀ H, Ex W H → ∀ Q : Bool → Hp → Prop, (∀ H2, Ex H H2 → Q b H2) → tt σ H Q
structure AR (ι : Type) where
  r : Hp → List V → ι → Prop
  mono : ∀ {H H' : Hp} {v : List V} {x : ι}, Ex H H' → r H v x → r H' v x
def aN : AR Unit := ⟨fun _ vs _ => vs = [], fun _ h => h⟩
def aC {α ι : Type} (R : Rep α) (A : AR ι) : AR (α × ι) := ⟨fun H vs p => ∃ v ws, vs = v :: ws ∧ R.r H v p.1 ∧ A.r H ws p.2,
  fun e ⟨v, ws, h1, h2, h3⟩ => ⟨v, ws, h1, R.mono e h2, A.mono e h3⟩⟩
def EA {ι : Type} (ta : TA) (σ : L2.St) (G W : Hp) (A : AR ι) (m : Option ι) : Prop :=
  ∀ x, m = some x → ∀ H, Ex G H → Ex W H → ∀ Q : List V → Hp → Prop, (∀ vs H2 G2, Up G H G2 H2 → A.r G2 vs x → Q vs H2) → ta σ H Q
section
variable {K : PySem.W.Frag} {σ : L2.St} {G H G' W W' : Hp} {ta tb te : TE} {t u : TT} {α β γ ι : Type} {R : Rep α} {S : Rep β} {T : Rep γ} {A : AR ι}
theorem E.mono {m : Option α} (e : Ex G G') (e' : Ex W W') (h : E te σ G W R m) : E te σ G' W' R m := fun x hx H e1 e2 Q q =>
  h x hx H (e.trans e1) (e'.trans e2) Q fun v H2 G2 up r => by
    obtain ⟨G3, u3, e3⟩ := up.lift e e1
    exact q v H2 G3 u3 (R.mono e3 r)
theorem ET.mono {m : Option Bool} (e : Ex W W') (h : ET t σ W m) : ET t σ W' m := fun x hx H e1 Q q => h x hx H (e.trans e1) Q q
theorem EA.mono {ta : TA} {m : Option ι} (e : Ex G G') (e' : Ex W W') (h : EA ta σ G W A m) : EA ta σ G' W' A m := fun x hx H e1 e2 Q q =>
  h x hx H (e.trans e1) (e'.trans e2) Q fun v H2 G2 up r => by
    obtain ⟨G3, u3, e3⟩ := up.lift e e1
    exact q v H2 G3 u3 (A.mono e3 r)
/-- a value that hangs on no heap -/
theorem E.s {m : Option α} (sc : R.Sc) (h : E te σ W W R m) : E te σ G W R m := fun x hx H e1 e2 Q q =>
  h x hx H e2 e2 Q fun v H2 G2 up r => q v H2 G (Up.same e1 up.hh) (sc r)
theorem e_var {i : Nat} {v : V} {x : α} (hi : σ[i]? = some (some v)) (hv : R.r G v x) : E (tVar i) σ G W R (some x) := fun y hy H e _ Q q => by
  cases hy
  exact ⟨v, hi, q v H G (Up.refl e) hv⟩
theorem e_c {v : V} {x : α} (hv : R.r G v x) : E (tC v) σ G W R (some x) := fun y hy H e _ Q q => by
  cases hy
  exact q v H G (Up.refl e) hv
theorem e_int {i : Int} : E (tC (.int i)) σ G W rI (some i) := e_c rfl
theorem e_bl {i : Bool} : E (tC (.bl i)) σ G W rB (some i) := e_c rfl
theorem e_str {i : Str} : E (tC (.str i)) σ G W rS (some i) := e_c rfl
theorem e_non : E (tC .non) σ G W rU (some ()) := e_c rfl
/-- an operator on values, as a mirror -/
def RR (r : R2) (R : Rep α) (S : Rep β) (T : Rep γ) (f : α → β → Option γ) : Prop :=
  ∀ v w x y z H G, R.r G v x → S.r G w y → f x y = some z → Ex G H → ∀ Q : VK, (∀ u H2 G2, Up G H G2 H2 → T.r G2 u z → Q u H2) → r v w H Q
theorem e_op {r : R2} {f : α → β → Option γ} {ma : Option α} {mb : Option β} (hr : RR r R S T f) (ha : E ta σ G W R ma) (hb : E tb σ G W S mb) :
    E (tOp r ta tb) σ G W T (ma >>= fun x => mb >>= fun y => f x y) := fun z hz H e e' Q q => by
  obtain ⟨x, hx, hz⟩ := bindS hz
  obtain ⟨y, hy, hz⟩ := bindS hz
  refine ha x hx H e e' _ fun v H1 G1 u1 r1 => ?_
  refine (hb.mono u1.gg (e'.trans u1.hh)) y hy H1 u1.gh (Ex.refl _) _ fun w H2 G2 u2 r2 => ?_
  exact hr v w x y z H2 G2 (R.mono u2.gg r1) r2 hz u2.gh Q fun u H3 G3 u3 r3 => q u H3 G3 ((u1.trans u2).trans u3) r3
theorem rr_I0 {g : Int → Int → V} {f : Int → Int → γ} (h : ∀ i j H, T.r H (g i j) (f i j)) : RR (rI0 g) rI rI T (fun i j => some (f i j)) := fun v w x y z H G hv hw hz e Q q => by
  cases hv; cases hw; cases hz
  exact ⟨x, y, rfl, rfl, q _ H G (Up.refl e) (h x y G)⟩
theorem rr_I {C : Int → Int → Prop} {g : Int → Int → V} {f : Int → Int → Option γ} (h : ∀ i j z, f i j = some z → C i j ∧ ∀ H, T.r H (g i j) z) : RR (L2.rI C g) rI rI T f := fun v w x y z H G hv hw hz e Q q => by
  cases hv; cases hw
  obtain ⟨h1, h2⟩ := h x y z hz
  exact ⟨x, y, rfl, rfl, h1, q _ H G (Up.refl e) (h2 G)⟩
end
end Sim

namespace Sim
open PySem L2 Evl

/-! ### cells: objects that change -/
structure CP where
  p : Hp → HO → Prop
  mono : ∀ {G G' : Hp} {o : HO}, Ex G G' → p G o → p G' o
def cL {α : Type} (R : Rep α) (xs : List α) : CP := ⟨fun G o => ∃ vs, o = .lst vs ∧ Paired (R.r G) vs xs, fun e ⟨vs, h1, h2⟩ => ⟨vs, h1, Paired.mapP h2 fun _ _ => R.mono e⟩⟩
abbrev Cs := List (Addr × CP)
structure Wd (G H : Hp) (cs : Cs) : Prop where
  ex : Ex G H
  at_ : ∀ c ∈ cs, G c.1 = none ∧ ∃ o, H c.1 = some o ∧ c.2.p G o
  nd : (cs.map (·.1)).Nodup
theorem Wd.nil {G H : Hp} (e : Ex G H) : Wd G H [] := ⟨e, fun _ h => absurd h List.not_mem_nil, List.nodup_nil⟩
section
variable {G H G2 H2 : Hp} {cs : Cs} {l : Addr} {cp cp' : CP}
theorem Wd.head (w : Wd G H ((l, cp) :: cs)) : G l = none ∧ ∃ o, H l = some o ∧ cp.p G o := w.at_ _ (List.mem_cons_self ..)
theorem Wd.tail (w : Wd G H ((l, cp) :: cs)) : Wd G H cs := ⟨w.ex, fun c h => w.at_ c (List.mem_cons_of_mem _ h), (List.nodup_cons.mp w.nd).2⟩
theorem Wd.up (w : Wd G H cs) (u : Up G H G2 H2) : Wd G2 H2 cs := ⟨u.gh, fun c h => by
  obtain ⟨h1, o, h2, h3⟩ := w.at_ c h
  exact ⟨u.nw _ (by rw [h2]; simp) h1, o, u.hh _ _ h2, c.2.mono u.gg h3⟩, w.nd⟩
theorem Wd.sc (w : Wd G H cs) (u : Ex H H2) : Wd G H2 cs := w.up (Up.same w.ex u)
theorem Wd.swap {l' : Addr} (w : Wd G H ((l, cp) :: (l', cp') :: cs)) : Wd G H ((l', cp') :: (l, cp) :: cs) := ⟨w.ex, fun c h => w.at_ c (by
  rcases List.mem_cons.mp h with h | h
  · subst h; exact List.mem_cons_of_mem _ (List.mem_cons_self ..)
  · rcases List.mem_cons.mp h with h | h
    · subst h; exact List.mem_cons_self ..
    · exact List.mem_cons_of_mem _ (List.mem_cons_of_mem _ h)), by
  have := w.nd
  simp only [List.map_cons, List.nodup_cons, List.mem_cons, not_or] at this ⊢
  exact ⟨⟨fun z => this.1.1 z.symm, this.2.1⟩, this.1.2, this.2.2⟩⟩
/-- the first cell moved behind the second and third -/
theorem Wd.rot3 {l' l'' : Addr} {cp'' : CP} (w : Wd G H ((l, cp) :: (l', cp') :: (l'', cp'') :: cs)) : Wd G H ((l'', cp'') :: (l, cp) :: (l', cp') :: cs) := ⟨w.ex, fun c h => w.at_ c (by
  simp only [List.mem_cons] at h ⊢
  rcases h with h | h | h | h <;> simp [h]), by
  have := w.nd
  simp only [List.map_cons, List.nodup_cons, List.mem_cons, not_or] at this ⊢
  obtain ⟨⟨a, b, c⟩, ⟨d, e⟩, f, g⟩ := this
  exact ⟨⟨fun z => b z.symm, fun z => d z.symm, f⟩, ⟨a, c⟩, e, g⟩⟩
/-- the first cell is written -/
theorem Wd.write (w : Wd G H ((l, cp) :: cs)) {o : HO} (h : cp'.p G o) : Wd G (upd H l o) ((l, cp') :: cs) := by
  refine ⟨fun a u e => ?_, fun c hc => ?_, w.nd⟩
  · rw [upd_ne (fun z => by subst z; rw [w.head.1] at e; cases e)]; exact w.ex a u e
  · rcases List.mem_cons.mp hc with hc | hc
    · subst hc; exact ⟨w.head.1, o, upd_same, h⟩
    · obtain ⟨h1, o', h2, h3⟩ := w.tail.at_ c hc
      have hne : c.1 ≠ l := fun z => (List.nodup_cons.mp w.nd).1 (by rw [← z]; exact List.mem_map_of_mem (f := (·.1)) hc)
      exact ⟨h1, o', by rw [upd_ne hne]; exact h2, h3⟩
/-- a new cell is laid -/
theorem Wd.new (w : Wd G H cs) {o : HO} (n : H l = none) (h : cp.p G o) : Wd G (upd H l o) ((l, cp) :: cs) := by
  refine ⟨w.ex.mut (fresh_back w.ex n), fun c hc => ?_, ?_⟩
  · rcases List.mem_cons.mp hc with hc | hc
    · subst hc; exact ⟨fresh_back w.ex n, o, upd_same, h⟩
    · obtain ⟨h1, o', h2, h3⟩ := w.at_ c hc
      exact ⟨h1, o', by rw [upd_ne (ne_of_none h2 n)]; exact h2, h3⟩
  · show (l :: cs.map (·.1)).Nodup
    refine List.nodup_cons.mpr ⟨fun hm => ?_, w.nd⟩
    obtain ⟨c, hc, e⟩ := List.mem_map.mp hm
    obtain ⟨_, o', h2, _⟩ := w.at_ c hc
    exact ne_of_none h2 n e
/-- a list cell becomes data -/
theorem Wd.freeze {α : Type} {R : Rep α} {xs : List α} (w : Wd G H ((l, cL R xs) :: cs)) : ∃ G2, Wd G2 H cs ∧ Ex G G2 ∧ (rL R).r G2 (.ref l) xs := by
  obtain ⟨h1, o, h2, vs, rfl, h3⟩ := w.head
  refine ⟨upd G l (.lst vs), ⟨fun a u e => ?_, fun c hc => ?_, w.tail.nd⟩, Ex.new h1, l, vs, rfl, upd_same, Paired.mapP h3 fun _ _ => R.mono (Ex.new h1)⟩
  · by_cases q : a = l
    · subst q; rw [upd_same] at e; cases e; exact h2
    · rw [upd_ne q] at e; exact w.ex a u e
  · obtain ⟨k1, o', k2, k3⟩ := w.tail.at_ c hc
    have hne : c.1 ≠ l := fun z => (List.nodup_cons.mp w.nd).1 (by rw [← z]; exact List.mem_map_of_mem (f := (·.1)) hc)
    exact ⟨by rw [upd_ne hne]; exact k1, o', k2, c.2.mono (Ex.new h1) k3⟩
/-- a cell read as it stands -/
theorem Wd.rl {α : Type} {R : Rep α} {xs : List α} (w : Wd G H ((l, cL R xs) :: cs)) : (rL R).r H (.ref l) xs := by
  obtain ⟨h1, o, h2, vs, rfl, h3⟩ := w.head
  exact ⟨l, vs, rfl, h2, Paired.mapP h3 fun _ _ => R.mono w.ex⟩
end
theorem Wd.rl1 {G H : Hp} {cs : Cs} {α : Type} {R : Rep α} {xs : List α} {l : Addr} {c : Addr × CP} (w : Wd G H (c :: (l, cL R xs) :: cs)) : (rL R).r H (.ref l) xs := w.tail.rl
theorem Wd.rl2 {G H : Hp} {cs : Cs} {α : Type} {R : Rep α} {xs : List α} {l : Addr} {c c' : Addr × CP} (w : Wd G H (c :: c' :: (l, cL R xs) :: cs)) : (rL R).r H (.ref l) xs := w.tail.tail.rl

/-! ### promises -/
/-- what is handed back is data -/
def PF {ι α : Type} (A : AR ι) (R : Rep α) (f : ι → Option α) : Sp := fun vs H Q _ => ∃ G i x, Ex G H ∧ A.r G vs i ∧ f i = some x ∧ ∀ v H2 G2, Up G H G2 H2 → R.r G2 v x → Q v H2
/-- a new list is handed back -/
def PL {ι α : Type} (A : AR ι) (R : Rep α) (f : ι → Option (List α)) : Sp := fun vs H Q _ => ∃ G i x, Ex G H ∧ A.r G vs i ∧ f i = some x ∧
  ∀ p H2 G2, H p = none → Up G H G2 H2 → Wd G2 H2 [(p, cL R x)] → Q (.ref p) H2
/-- cells change -/
structure Fr (G H G2 H2 : Hp) (ls : List Addr) : Prop where
  gg : Ex G G2
  fr : ∀ a o, H a = some o → a ∉ ls → H2 a = some o
  nw : ∀ a, H a ≠ none → G a = none → G2 a = none
  st : ∀ a, H a ≠ none → H2 a ≠ none
def PM {ι κ α : Type} (A : AR ι) (ci : ι → κ → Cs) (R : Rep α) (f : ι → κ → Option (α × κ)) : Sp := fun vs H Q _ => ∃ G i k x k', A.r G vs i ∧ Wd G H (ci i k) ∧ f i k = some (x, k') ∧
  ∀ v H2 G2, Fr G H G2 H2 ((ci i k).map (·.1)) → Wd G2 H2 (ci i k') → R.r G2 v x → Q v H2
def PML {ι κ α : Type} (A : AR ι) (ci : ι → κ → Cs) (R : Rep α) (f : ι → κ → Option (List α × κ)) : Sp := fun vs H Q _ => ∃ G i k x k', A.r G vs i ∧ Wd G H (ci i k) ∧ f i k = some (x, k') ∧
  ∀ p H2 G2, H p = none → Fr G H G2 H2 ((ci i k).map (·.1)) → Wd G2 H2 ((p, cL R x) :: ci i k') → Q (.ref p) H2
theorem Wd.app {G H : Hp} {a b : Cs} (w : Wd G H (a ++ b)) : Wd G H a ∧ Wd G H b := ⟨⟨w.ex, fun c h => w.at_ c (List.mem_append_left _ h), by
  have := w.nd; rw [List.map_append] at this; exact (List.nodup_append.mp this).1⟩, ⟨w.ex, fun c h => w.at_ c (List.mem_append_right _ h), by
  have := w.nd; rw [List.map_append] at this; exact (List.nodup_append.mp this).2.1⟩⟩
theorem Wd.join {G H G2 H2 : Hp} {a a' b : Cs} (w : Wd G H (a ++ b)) (f : Fr G H G2 H2 (a.map (·.1))) (w2 : Wd G2 H2 a') (e : a'.map (·.1) = a.map (·.1)) : Wd G2 H2 (a' ++ b) := by
  have nd : (a.map (·.1) ++ b.map (·.1)).Nodup := by have := w.nd; rw [List.map_append] at this; exact this
  refine ⟨w2.ex, fun c h => ?_, by rw [List.map_append, e]; exact nd⟩
  rcases List.mem_append.mp h with h | h
  · exact w2.at_ c h
  · obtain ⟨h1, o, h2, h3⟩ := w.app.2.at_ c h
    have hn : c.1 ∉ a.map (·.1) := fun z => (List.nodup_append.mp nd).2.2 _ z _ (List.mem_map_of_mem h) rfl
    exact ⟨f.nw _ (by rw [h2]; simp) h1, o, f.fr _ _ h2 hn, c.2.mono f.gg h3⟩
/-- the same, a new cell ahead -/
theorem Wd.joinN {G H G2 H2 : Hp} {a a' b : Cs} {p : Addr} {cp : CP} (w : Wd G H (a ++ b)) (f : Fr G H G2 H2 (a.map (·.1))) (hp : H p = none) (w2 : Wd G2 H2 ((p, cp) :: a')) (e : a'.map (·.1) = a.map (·.1)) : Wd G2 H2 ((p, cp) :: (a' ++ b)) := by
  have w3 := w.join f w2.tail e
  refine ⟨w3.ex, fun c h => ?_, ?_⟩
  · rcases List.mem_cons.mp h with h | h
    · subst h; exact w2.head
    · exact w3.at_ c h
  · show (p :: (a' ++ b).map (·.1)).Nodup
    refine List.nodup_cons.mpr ⟨fun hm => ?_, w3.nd⟩
    rw [List.map_append, e, ← List.map_append] at hm
    obtain ⟨c, hc, ec⟩ := List.mem_map.mp hm
    obtain ⟨_, o', h2, _⟩ := w.at_ c hc
    exact ne_of_none h2 hp ec
theorem Fr.refl {G H : Hp} {ls : List Addr} : Fr G H G H ls := ⟨Ex.refl _, fun _ _ h _ => h, fun _ _ h => h, fun _ h => h⟩
theorem some_ne {H H2 : Hp} (e : Ex H H2) {a : Addr} (h : H a ≠ none) : H2 a ≠ none := by
  cases q : H a with
  | none => exact absurd q h
  | some o => rw [e a o q]; simp
theorem Up.fr {G H G2 H2 : Hp} {ls : List Addr} (u : Up G H G2 H2) : Fr G H G2 H2 ls := ⟨u.gg, fun a o h _ => u.hh a o h, u.nw, fun a h => some_ne u.hh h⟩
theorem Fr.trans {G H G1 H1 G2 H2 : Hp} {ls : List Addr} (a : Fr G H G1 H1 ls) (b : Fr G1 H1 G2 H2 ls) : Fr G H G2 H2 ls :=
  ⟨a.gg.trans b.gg, fun x o h1 h2 => b.fr x o (a.fr x o h1 h2) h2, fun x h1 h2 => b.nw x (a.st x h1) (a.nw x h1 h2), fun x h => b.st x (a.st x h)⟩
/-- a frame of more cells, those that were not there ahead -/
theorem Fr.less {G H G2 H2 : Hp} {ls ms : List Addr} (a : Fr G H G2 H2 ms) (h : ∀ x ∈ ms, x ∈ ls ∨ H x = none) : Fr G H G2 H2 ls :=
  ⟨a.gg, fun x o h1 h2 => a.fr x o h1 fun z => (h x z).elim h2 fun q => absurd h1 (by rw [q]; simp), a.nw, a.st⟩
theorem Fr.write {G H : Hp} {l : Addr} {o : HO} : Fr G H G (upd H l o) [l] := ⟨Ex.refl _, fun a u h1 h2 => by rw [upd_ne (fun z => h2 (by rw [z]; exact List.mem_cons_self ..))]; exact h1, fun _ _ h => h, fun a h => by
  by_cases q : a = l
  · subst q; rw [upd_same]; simp
  · rw [upd_ne q]; exact h⟩
end Sim

namespace Sim
open PySem L2 Evl
section
variable {K : PySem.W.Frag} {σ : L2.St} {G H G' W W' : Hp} {ta tb te tc : TE} {t u : TT} {α β γ ι κ : Type} {R : Rep α} {S : Rep β} {T : Rep γ} {A : AR ι}

/-! ### mirrors of operations that may lack an answer -/
def mulM (a b : Int) : Option Int := if (-(2 ^ 64) < a ∧ a < 2 ^ 64) ∨ (-(2 ^ 64) < b ∧ b < 2 ^ 64) then some (a * b) else none
def modM (a b : Int) : Option Int := if 0 < b then some (a % b) else none
def fdivM (a b : Int) : Option Int := if 0 < b ∧ b < 1073741824 then some (a / b) else none
def andO (a : Option Bool) (b : Option Bool) : Option Bool := a >>= fun x => bif x then b else some false
def orO (a : Option Bool) (b : Option Bool) : Option Bool := a >>= fun x => bif x then some true else b
def iteO (c : Option Bool) (a b : Option α) : Option α := c >>= fun x => bif x then a else b

theorem rr_add : RR (rI0 fun i j => .int (i + j)) rI rI rI (fun i j => some (i + j)) := rr_I0 fun _ _ _ => rfl
theorem rr_sub : RR (rI0 fun i j => .int (i - j)) rI rI rI (fun i j => some (i - j)) := rr_I0 fun _ _ _ => rfl
theorem rr_mul : RR (L2.rI CMul fun i j => .int (i * j)) rI rI rI mulM := rr_I fun i j z h => by
  unfold mulM at h
  split at h
  · rename_i hc; cases h; exact ⟨hc, fun _ => rfl⟩
  · cases h
theorem rr_mod : RR (L2.rI (fun _ j => 0 < j) fun i j => .int (i % j)) rI rI rI modM := rr_I fun i j z h => by
  unfold modM at h
  split at h
  · rename_i hc; cases h; exact ⟨hc, fun _ => rfl⟩
  · cases h
theorem rr_fdiv : RR (L2.rI CDiv fun i j => .int (i / j)) rI rI rI fdivM := rr_I fun i j z h => by
  unfold fdivM at h
  split at h
  · rename_i hc; cases h; exact ⟨hc, fun _ => rfl⟩
  · cases h
theorem rr_and : RR (rI0 fun i j => .int (Builtin.bitAnd i j)) rI rI rI (fun i j => some (Builtin.bitAnd i j)) := rr_I0 fun _ _ _ => rfl
theorem rr_or : RR (rI0 fun i j => .int (Builtin.bitOr i j)) rI rI rI (fun i j => some (Builtin.bitOr i j)) := rr_I0 fun _ _ _ => rfl
theorem rr_lt : RR (rI0 fun i j => .bl (decide (i < j))) rI rI rB (fun i j => some (decide (i < j))) := rr_I0 fun _ _ _ => rfl
theorem rr_le : RR (rI0 fun i j => .bl (decide (i ≤ j))) rI rI rB (fun i j => some (decide (i ≤ j))) := rr_I0 fun _ _ _ => rfl
theorem rr_gt : RR (rI0 fun i j => .bl (decide (j < i))) rI rI rB (fun i j => some (decide (j < i))) := rr_I0 fun _ _ _ => rfl
theorem rr_ge : RR (rI0 fun i j => .bl (decide (j ≤ i))) rI rI rB (fun i j => some (decide (j ≤ i))) := rr_I0 fun _ _ _ => rfl
theorem rr_eqI : RR rEq rI rI rB (fun i j => some (i == j)) := fun v w x y z H G hv hw hz e Q q => by
  cases hv; cases hw; cases hz
  exact ⟨rfl, q _ H G (Up.refl e) (congrArg V.bl dec_int)⟩
theorem rr_neI : RR rNe rI rI rB (fun i j => some (!(i == j))) := fun v w x y z H G hv hw hz e Q q => by
  cases hv; cases hw; cases hz
  exact ⟨rfl, q _ H G (Up.refl e) (congrArg (fun b => V.bl (!b)) dec_int)⟩
theorem rr_eqB : RR rEq rB rB rB (fun i j => some (i == j)) := fun v w x y z H G hv hw hz e Q q => by
  cases hv; cases hw; cases hz
  exact ⟨rfl, q _ H G (Up.refl e) (congrArg V.bl dec_bl)⟩
theorem rr_neB : RR rNe rB rB rB (fun i j => some (!(i == j))) := fun v w x y z H G hv hw hz e Q q => by
  cases hv; cases hw; cases hz
  exact ⟨rfl, q _ H G (Up.refl e) (congrArg (fun b => V.bl (!b)) dec_bl)⟩
theorem rr_eqS : RR rEq rS rS rB (fun i j => some (decide (i = j))) := fun v w x y z H G hv hw hz e Q q => by
  cases hv; cases hw; cases hz
  refine ⟨rfl, q _ H G (Up.refl e) (congrArg V.bl ?_)⟩
  by_cases h : x = y
  · subst h; simp
  · have : ¬ V.str x = V.str y := fun z => h (V.str.inj z)
    simp [h, this]
theorem rr_neS : RR rNe rS rS rB (fun i j => some (!decide (i = j))) := fun v w x y z H G hv hw hz e Q q => by
  cases hv; cases hw; cases hz
  refine ⟨rfl, q _ H G (Up.refl e) (congrArg (fun b => V.bl (!b)) ?_)⟩
  by_cases h : x = y
  · subst h; simp
  · have : ¬ V.str x = V.str y := fun z => h (V.str.inj z)
    simp [h, this]
theorem rr_ixL : RR (rIxL K) (rL R) rI R (fun xs i => atI xs i) := fun v w xs i z H G hv hw hz e Q q => by
  obtain ⟨a, vs, rfl, h2, h3⟩ := hv
  cases hw
  have hz' : (ixN xs.length i).bind (fun j => xs[j]?) = some z := hz
  cases hj : ixN xs.length i with
  | none => rw [hj] at hz'; cases hz'
  | some j =>
    rw [hj] at hz'
    obtain ⟨y, h4, h5⟩ := pr_get h3 (show xs[j]? = some z from hz')
    refine ⟨a, vs, i, y, rfl, rfl, Or.inl (Or.inl (e a _ h2)), ?_, q y H G (Up.refl e) h5⟩
    show (ixN vs.length i).bind (fun j => vs[j]?) = some y
    rw [h3.length, hj]; exact h4
theorem rr_ixT : RR (rIxT K) (rT R) rI R (fun xs i => atI xs i) := fun v w xs i z H G hv hw hz e Q q => by
  obtain ⟨a, vs, rfl, h2, h3⟩ := hv
  cases hw
  have hz' : (ixN xs.length i).bind (fun j => xs[j]?) = some z := hz
  cases hj : ixN xs.length i with
  | none => rw [hj] at hz'; cases hz'
  | some j =>
    rw [hj] at hz'
    obtain ⟨y, h4, h5⟩ := pr_get h3 (show xs[j]? = some z from hz')
    refine ⟨a, vs, i, y, rfl, rfl, Or.inl (Or.inl (e a _ h2)), ?_, q y H G (Up.refl e) h5⟩
    show (ixN vs.length i).bind (fun j => vs[j]?) = some y
    rw [h3.length, hj]; exact h4
/-- p[0], p[1] of a pair -/
theorem e_fst {m : Option (α × β)} (h : E ta σ G W (rP R S) m) : E (tOp (rIxT K) ta (tC (.int 0))) σ G W R (m >>= fun p => some p.1) := fun z hz H e e' Q q => by
  obtain ⟨x, hx, hz⟩ := bindS hz
  cases hz
  refine h x hx H e e' _ fun v H1 G1 u1 r1 => ?_
  obtain ⟨a, y, w, rfl, h2, h3, h4⟩ := r1
  exact ⟨a, [y, w], 0, y, rfl, rfl, Or.inl (Or.inl (u1.gh a _ h2)), rfl, q y H1 G1 u1 h3⟩
theorem e_snd {m : Option (α × β)} (h : E ta σ G W (rP R S) m) : E (tOp (rIxT K) ta (tC (.int 1))) σ G W S (m >>= fun p => some p.2) := fun z hz H e e' Q q => by
  obtain ⟨x, hx, hz⟩ := bindS hz
  cases hz
  refine h x hx H e e' _ fun v H1 G1 u1 r1 => ?_
  obtain ⟨a, y, w, rfl, h2, h3, h4⟩ := r1
  exact ⟨a, [y, w], 1, w, rfl, rfl, Or.inl (Or.inl (u1.gh a _ h2)), rfl, q w H1 G1 u1 h4⟩
/-- never None -/
def Rep.NN (R : Rep α) : Prop := ∀ {H : Hp} {v : V} {x : α}, R.r H v x → v ≠ .non
theorem nnI : rI.NN := fun h => by rw [show _ = V.int _ from h]; simp
theorem nnB : rB.NN := fun h => by rw [show _ = V.bl _ from h]; simp
theorem nnS : rS.NN := fun h => by rw [show _ = V.str _ from h]; simp
theorem nnL : (rL R).NN := fun ⟨a, _, h, _⟩ => by rw [h]; simp
theorem nnT : (rT R).NN := fun ⟨a, _, h, _⟩ => by rw [h]; simp
theorem nnP : (rP R S).NN := fun ⟨a, _, _, h, _⟩ => by rw [h]; simp
theorem rr_isN (nn : R.NN) : RR (fun x y H Q => y = .non ∧ Q (.bl (decide (x = .non))) H) (rO R) rU rB (fun o _ => some o.isNone) := fun v w o y z H G hv hw hz e Q q => by
  cases hz
  refine ⟨hw, q _ H G (Up.refl e) ?_⟩
  cases o with
  | none => have : v = .non := hv; subst this; rfl
  | some x => exact congrArg V.bl (decide_eq_false (nn hv))
theorem rr_notN (nn : R.NN) : RR (fun x y H Q => y = .non ∧ Q (.bl (!decide (x = .non))) H) (rO R) rU rB (fun o _ => some o.isSome) := fun v w o y z H G hv hw hz e Q q => by
  cases hz
  refine ⟨hw, q _ H G (Up.refl e) ?_⟩
  cases o with
  | none => have : v = .non := hv; subst this; rfl
  | some x => exact congrArg (fun b => V.bl (!b)) (decide_eq_false (nn hv))
/-- flat values: in -/
structure FlR (R : Rep α) (eq : α → α → Bool) : Prop where
  fl : ∀ {H : Hp} {v : V} {x : α}, R.r H v x → flatV v = true
  eq : ∀ {H H' : Hp} {v w : V} {x y : α}, R.r H v x → R.r H' w y → eqV v w = eq x y
theorem flI : FlR rI (fun a b => a == b) := ⟨fun h => by rw [show _ = V.int _ from h]; rfl, fun h h' => by rw [show _ = V.int _ from h, show _ = V.int _ from h']; rfl⟩
theorem flS : FlR rS (fun a b => a == b) := ⟨fun h => by rw [show _ = V.str _ from h]; rfl, fun h h' => by rw [show _ = V.str _ from h, show _ = V.str _ from h']; rfl⟩
theorem pr_inV {eq : α → α → Bool} (f : FlR R eq) {H H' : Hp} {v : V} {x : α} (hv : R.r H' v x) : ∀ {vs : List V} {xs : List α}, Paired (R.r H) vs xs → inV v vs = xs.any (fun y => eq y x) ∧ vs.all flatV = true
  | _, _, .nil => ⟨rfl, rfl⟩
  | _, _, .cons r t => by
    obtain ⟨h1, h2⟩ := pr_inV f hv t
    refine ⟨?_, ?_⟩
    · show (eqV _ v || _) = (eq _ x || _)
      rw [f.eq r hv]; exact congrArg _ h1
    · show (flatV _ && _) = true
      rw [f.fl r]; exact h2
theorem rr_inL {eq : α → α → Bool} (f : FlR R eq) : RR (rIn K false) R (rL R) rB (fun x xs => some (xs.any fun y => eq y x)) := fun v w x xs z H G hv hw hz e Q q => by
  cases hz
  obtain ⟨a, vs, rfl, h2, h3⟩ := hw
  obtain ⟨h4, h5⟩ := pr_inV f hv h3
  refine ⟨a, vs, rfl, Or.inl (Or.inl (Or.inl (e a _ h2))), f.fl hv, h5, q _ H G (Up.refl e) (congrArg V.bl ?_)⟩
  exact h4
theorem rr_ninL {eq : α → α → Bool} (f : FlR R eq) : RR (rIn K true) R (rL R) rB (fun x xs => some (!xs.any fun y => eq y x)) := fun v w x xs z H G hv hw hz e Q q => by
  cases hz
  obtain ⟨a, vs, rfl, h2, h3⟩ := hw
  obtain ⟨h4, h5⟩ := pr_inV f hv h3
  refine ⟨a, vs, rfl, Or.inl (Or.inl (Or.inl (e a _ h2))), f.fl hv, h5, q _ H G (Up.refl e) (congrArg V.bl ?_)⟩
  exact congrArg (fun b => !b) h4

/-! ### and, or, not, if -/
theorem e_andV {a b : Option Bool} (h1 : E ta σ G W rB a) (h2 : E tb σ G W rB b) : E (tAndV ta tb) σ G W rB (andO a b) := fun z hz H e e' Q q => by
  obtain ⟨x, hx, hz⟩ := bindS hz
  refine h1 x hx H e e' _ fun v H1 G1 u1 r1 => ⟨x, r1, ?_⟩
  cases x with
  | true => exact (h2.mono u1.gg (e'.trans u1.hh)) z hz H1 u1.gh (Ex.refl _) Q fun v H2 G2 u2 r2 => q v H2 G2 (u1.trans u2) r2
  | false => cases hz; exact q _ H1 G1 u1 rfl
theorem e_orV {a b : Option Bool} (h1 : E ta σ G W rB a) (h2 : E tb σ G W rB b) : E (tOrV ta tb) σ G W rB (orO a b) := fun z hz H e e' Q q => by
  obtain ⟨x, hx, hz⟩ := bindS hz
  refine h1 x hx H e e' _ fun v H1 G1 u1 r1 => ⟨x, r1, ?_⟩
  cases x with
  | false => exact (h2.mono u1.gg (e'.trans u1.hh)) z hz H1 u1.gh (Ex.refl _) Q fun v H2 G2 u2 r2 => q v H2 G2 (u1.trans u2) r2
  | true => cases hz; exact q _ H1 G1 u1 rfl
theorem e_notV {a : Option Bool} (h1 : E ta σ G W rB a) : E (tNotV ta) σ G W rB (a >>= fun x => some (!x)) := fun z hz H e e' Q q => by
  obtain ⟨x, hx, hz⟩ := bindS hz
  cases hz
  exact h1 x hx H e e' _ fun v H1 G1 u1 r1 => ⟨x, r1, q _ H1 G1 u1 rfl⟩
theorem e_if {c : Option Bool} {ma mb : Option α} (hc : ET t σ W c) (h1 : E ta σ G W R ma) (h2 : E tb σ G W R mb) : E (tIf t ta tb) σ G W R (iteO c ma mb) := fun z hz H e e' Q q => by
  obtain ⟨x, hx, hz⟩ := bindS hz
  refine hc x hx H e' _ fun H1 e1 => ?_
  cases x with
  | true => exact h1 z hz H1 (e.trans e1) (e'.trans e1) Q fun v H2 G2 u2 r2 => q v H2 G2 ((Up.same e e1).trans u2) r2
  | false => exact h2 z hz H1 (e.trans e1) (e'.trans e1) Q fun v H2 G2 u2 r2 => q v H2 G2 ((Up.same e e1).trans u2) r2
theorem et_T {m : Option Bool} (h : E te σ W W rB m) : ET (tTest te) σ W m := fun b hb H e Q q => h b hb H e e _ fun v H2 G2 u r => ⟨b, r, q H2 u.hh⟩
theorem et_B {m : Option Bool} (h : E te σ W W rB m) : ET (tB te) σ W m := fun b hb H e Q q => h b hb H e e _ fun v H2 G2 u r => ⟨b, r, q H2 u.hh⟩
theorem et_and {a b : Option Bool} (h1 : ET t σ G a) (h2 : ET u σ G b) : ET (tAnd t u) σ G (andO a b) := fun z hz H e Q q => by
  obtain ⟨x, hx, hz⟩ := bindS hz
  refine h1 x hx H e _ fun H1 e1 => ?_
  cases x with
  | true => exact h2 z hz H1 (e.trans e1) Q fun H2 e2 => q H2 (e1.trans e2)
  | false => cases hz; exact q H1 e1
theorem et_or {a b : Option Bool} (h1 : ET t σ G a) (h2 : ET u σ G b) : ET (tOr t u) σ G (orO a b) := fun z hz H e Q q => by
  obtain ⟨x, hx, hz⟩ := bindS hz
  refine h1 x hx H e _ fun H1 e1 => ?_
  cases x with
  | false => exact h2 z hz H1 (e.trans e1) Q fun H2 e2 => q H2 (e1.trans e2)
  | true => cases hz; exact q H1 e1
theorem et_not {a : Option Bool} (h1 : ET t σ G a) : ET (tNot t) σ G (a >>= fun x => some (!x)) := fun z hz H e Q q => by
  obtain ⟨x, hx, hz⟩ := bindS hz
  cases hz
  exact h1 x hx H e _ fun H1 e1 => q H1 e1

/-! ### arguments, calls -/
theorem ea_nil : EA tNil σ G W aN (some ()) := fun x hx H e e' Q q => q [] H G (Up.refl e) rfl
theorem ea_cons {tr : TA} {ma : Option α} {mr : Option ι} (h : E ta σ G W R ma) (hr : EA tr σ G W A mr) : EA (tCons ta tr) σ G W (aC R A) (ma >>= fun x => mr >>= fun y => some (x, y)) := fun z hz H e e' Q q => by
  obtain ⟨x, hx, hz⟩ := bindS hz
  obtain ⟨y, hy, hz⟩ := bindS hz
  cases hz
  refine h x hx H e e' _ fun v H1 G1 u1 r1 => ?_
  refine (hr.mono u1.gg (e'.trans u1.hh)) y hy H1 u1.gh (Ex.refl _) _ fun w H2 G2 u2 r2 => ?_
  exact q (v :: w) H2 G2 (u1.trans u2) ⟨v, w, rfl, R.mono u2.gg r1, r2⟩
def RC (r : List V → Hp → VK → Prop) (A : AR ι) (T : Rep γ) (f : ι → Option γ) : Prop :=
  ∀ vs i z H G, A.r G vs i → f i = some z → Ex G H → ∀ Q : VK, (∀ u H2 G2, Up G H G2 H2 → T.r G2 u z → Q u H2) → r vs H Q
def RCL (r : List V → Hp → VK → Prop) (A : AR ι) (T : Rep γ) (f : ι → Option (List γ)) : Prop :=
  ∀ vs i z H G, A.r G vs i → f i = some z → Ex G H → ∀ Q : VK, (∀ p H2 G2, H p = none → Up G H G2 H2 → Wd G2 H2 [(p, cL T z)] → Q (.ref p) H2) → r vs H Q
/-- an expression that makes a new list -/
def EL (te : TE) (σ : L2.St) (G W : Hp) (R : Rep α) (m : Option (List α)) : Prop :=
  ∀ xs, m = some xs → ∀ H, Ex G H → Ex W H → ∀ Q : VK, (∀ p H2 G2, H p = none → Up G H G2 H2 → Wd G2 H2 [(p, cL R xs)] → Q (.ref p) H2) → te σ H Q
theorem Up.frz {G H G1 H1 G2 : Hp} {p : Addr} (hp : H p = none) (u : Up G H G1 H1) (e : Ex G1 G2) (e2 : Ex G2 H1) (n : ∀ a, a ≠ p → G1 a = none → G2 a = none) : Up G H G2 H1 :=
  ⟨u.gg.trans e, e2, u.hh, fun a h1 h2 => n a (fun z => by subst z; exact h1 hp) (u.nw a h1 h2)⟩
theorem frz1 {G H G1 H1 : Hp} {p : Addr} {xs : List α} (hp : H p = none) (u : Up G H G1 H1) (w : Wd G1 H1 [(p, cL R xs)]) : ∃ G2, Up G H G2 H1 ∧ (rL R).r G2 (.ref p) xs := by
  obtain ⟨h1, o, h2, vs, rfl, h3⟩ := w.head
  refine ⟨upd G1 p (.lst vs), u.frz hp (Ex.new h1) (fun a u' e => ?_) (fun a ne h => by rw [upd_ne ne]; exact h), p, vs, rfl, upd_same, Paired.mapP h3 fun _ _ => R.mono (Ex.new h1)⟩
  by_cases q : a = p
  · subst q; rw [upd_same] at e; cases e; exact h2
  · rw [upd_ne q] at e; exact w.ex a u' e
theorem EL.e {m : Option (List α)} (h : EL te σ G W R m) : E te σ G W (rL R) m := fun x hx H e e' Q q => h x hx H e e' Q fun p H2 G2 hp u w => by
  obtain ⟨G3, u3, r3⟩ := frz1 hp u w
  exact q _ H2 G3 u3 r3
theorem Wd.lift {Gw G2 : Hp} {H : Hp} {cs : Cs} (w : Wd G2 H cs) (e : Ex G2 Gw) (e2 : Ex Gw H) (n : ∀ c ∈ cs, Gw c.1 = none) : Wd Gw H cs := ⟨e2, fun c h => by
  obtain ⟨h1, o, h2, h3⟩ := w.at_ c h
  exact ⟨n c h, o, h2, c.2.mono e h3⟩, w.nd⟩
theorem Up.lift' {G Gw H G2 H2 : Hp} (u : Up G H G2 H2) (e1 : Ex G Gw) (e2 : Ex Gw H) : ∃ G3, Up Gw H G3 H2 ∧ Ex G2 G3 ∧ ∀ a, H a = none → G2 a = none → G3 a = none := by
  refine ⟨fun a => match H a with | none => G2 a | some _ => Gw a, ⟨fun a o h => ?_, fun a o h => ?_, u.hh, fun a h1 h2 => ?_⟩, fun a o h => ?_, fun a h1 h2 => ?_⟩
  · show (match H a with | none => G2 a | some _ => Gw a) = some o
    rw [e2 a o h]; exact h
  · have h' : (match H a with | none => G2 a | some _ => Gw a) = some o := h
    cases q : H a with
    | none => rw [q] at h'; exact u.gh a o h'
    | some o' =>
      rw [q] at h'
      exact u.hh a o (e2 a o h')
  · show (match H a with | none => G2 a | some _ => Gw a) = none
    cases q : H a with
    | none => exact absurd q h1
    | some o' => exact h2
  · show (match H a with | none => G2 a | some _ => Gw a) = some o
    cases q : H a with
    | none => exact h
    | some o' =>
      show Gw a = some o
      cases r : G a with
      | none => rw [u.nw a (by rw [q]; simp) r] at h; cases h
      | some o2 =>
        have := u.gg a o2 r
        rw [h] at this
        cases this
        exact e1 a _ r
  · show (match H a with | none => G2 a | some _ => Gw a) = none
    rw [h1]; exact h2
theorem EL.mono {m : Option (List α)} (e : Ex G G') (e' : Ex W W') (h : EL te σ G W R m) : EL te σ G' W' R m := fun x hx H e1 e2 Q q => h x hx H (e.trans e1) (e'.trans e2) Q fun p H2 G2 hp u w => by
  obtain ⟨G3, u3, e3, n3⟩ := u.lift' e e1
  exact q p H2 G3 hp u3 (w.lift e3 u3.gh fun c hc => by
    cases List.mem_singleton.mp hc
    exact n3 p hp w.head.1)
theorem e_cb {r : List V → Hp → VK → Prop} {f : ι → Option γ} {ta : TA} {m : Option ι} (hr : RC r A T f) (ha : EA ta σ G W A m) : E (tCB r ta) σ G W T (m >>= f) := fun z hz H e e' Q q => by
  obtain ⟨i, hi, hz⟩ := bindS hz
  refine ha i hi H e e' _ fun vs H1 G1 u1 r1 => ?_
  exact hr vs i z H1 G1 r1 hz u1.gh Q fun u H2 G2 u2 r2 => q u H2 G2 (u1.trans u2) r2
theorem el_cb {r : List V → Hp → VK → Prop} {f : ι → Option (List γ)} {ta : TA} {m : Option ι} (hr : RCL r A T f) (ha : EA ta σ G W A m) : EL (tCB r ta) σ G W T (m >>= f) := fun z hz H e e' Q q => by
  obtain ⟨i, hi, hz⟩ := bindS hz
  refine ha i hi H e e' _ fun vs H1 G1 u1 r1 => ?_
  exact hr vs i z H1 G1 r1 hz u1.gh Q fun p H2 G2 hp u2 w => q p H2 G2 (fresh_back u1.hh hp) (u1.trans u2) w
theorem e_call {f : ι → Option γ} {ta : TA} {m : Option ι} {X : XK} (ha : EA ta σ G W A m) : E (tCall (PF A T f) [] X ta) σ G W T (m >>= f) := fun z hz H e e' Q q => by
  obtain ⟨i, hi, hz⟩ := bindS hz
  refine ha i hi H e e' _ fun vs H1 G1 u1 r1 => ?_
  rw [List.append_nil]
  exact ⟨G1, i, z, u1.gh, r1, hz, fun v H2 G2 u2 r2 => q v H2 G2 (u1.trans u2) r2⟩
theorem el_call {f : ι → Option (List γ)} {ta : TA} {m : Option ι} {X : XK} (ha : EA ta σ G W A m) : EL (tCall (PL A T f) [] X ta) σ G W T (m >>= f) := fun z hz H e e' Q q => by
  obtain ⟨i, hi, hz⟩ := bindS hz
  refine ha i hi H e e' _ fun vs H1 G1 u1 r1 => ?_
  rw [List.append_nil]
  exact ⟨G1, i, z, u1.gh, r1, hz, fun p H2 G2 hp u2 w => q p H2 G2 (fresh_back u1.hh hp) (u1.trans u2) w⟩

/-! ### built-ins -/
def sz (n : Nat) : Bool := decide (n < 100000)
theorem sz_le {n : Nat} (h : sz n = true) : n ≤ sizeLine := sz_of (Nat.le_of_lt (of_decide_eq_true h))
theorem sz_l {n : Nat} (h : sz n = true) : n < sizeLine := sz_lt (of_decide_eq_true h)
abbrev rLn (K : PySem.W.Frag) : List V → Hp → VK → Prop := fun xs H Q => ∃ p ys, xs = [.ref p] ∧ (SqL K H p ys ∨ SqT K H p ys) ∧ Q (.int ys.length) H
theorem rc_lenL : RC (rLn K) (aC (rL R) aN) rI (fun i => some (i.1.length : Int)) := fun vs i z H G hv hz e Q q => by
  cases hz
  obtain ⟨v, ws, rfl, ⟨a, us, rfl, h2, h3⟩, rfl⟩ := hv
  refine ⟨a, us, rfl, Or.inl (Or.inl (Or.inl (e a _ h2))), q _ H G (Up.refl e) ?_⟩
  show V.int _ = V.int _
  rw [h3.length]
theorem rc_lenT : RC (rLn K) (aC (rT R) aN) rI (fun i => some (i.1.length : Int)) := fun vs i z H G hv hz e Q q => by
  cases hz
  obtain ⟨v, ws, rfl, ⟨a, us, rfl, h2, h3⟩, rfl⟩ := hv
  refine ⟨a, us, rfl, Or.inr (Or.inl (Or.inl (e a _ h2))), q _ H G (Up.refl e) ?_⟩
  show V.int _ = V.int _
  rw [h3.length]
abbrev rLs (K : PySem.W.Frag) : List V → Hp → VK → Prop := fun xs H Q => ∃ p ys, xs = [.ref p] ∧ (SqL K H p ys ∨ SqT K H p ys) ∧ ∀ l, H l = none → Q (.ref l) (upd H l (.lst ys))
theorem wd_new {vs : List V} {xs : List α} {p : Addr} (e : Ex G H) (n : H p = none) (h : Paired (R.r G) vs xs) : Wd G (upd H p (.lst vs)) [(p, cL R xs)] := (Wd.nil e).new n ⟨vs, rfl, h⟩
theorem up_new {p : Addr} {o : HO} (e : Ex G H) (n : H p = none) : Up G H G (upd H p o) := Up.same e (Ex.new n)
theorem rc_listL : RCL (rLs K) (aC (rL R) aN) R (fun i => some i.1) := fun vs i z H G hv hz e Q q => by
  cases hz
  obtain ⟨v, ws, rfl, ⟨a, us, rfl, h2, h3⟩, rfl⟩ := hv
  exact ⟨a, us, rfl, Or.inl (Or.inl (Or.inl (e a _ h2))), fun l hl => q l _ G hl (up_new e hl) (wd_new e hl h3)⟩
theorem rc_listT : RCL (rLs K) (aC (rT R) aN) R (fun i => some i.1) := fun vs i z H G hv hz e Q q => by
  cases hz
  obtain ⟨v, ws, rfl, ⟨a, us, rfl, h2, h3⟩, rfl⟩ := hv
  exact ⟨a, us, rfl, Or.inr (Or.inl (Or.inl (e a _ h2))), fun l hl => q l _ G hl (up_new e hl) (wd_new e hl h3)⟩
abbrev rTp (K : PySem.W.Frag) : List V → Hp → VK → Prop := fun xs H Q => ∃ p ys, xs = [.ref p] ∧ ((SqL K H p ys ∧ ∀ l, H l = none → Q (.ref l) (upd H l (.tup ys))) ∨ (SqT K H p ys ∧ Q (.ref p) H))
theorem rc_tupleL : RC (rTp K) (aC (rL R) aN) (rT R) (fun i => some i.1) := fun vs i z H G hv hz e Q q => by
  cases hz
  obtain ⟨v, ws, rfl, ⟨a, us, rfl, h2, h3⟩, rfl⟩ := hv
  refine ⟨a, us, rfl, Or.inl ⟨Or.inl (Or.inl (e a _ h2)), fun l hl => q _ _ _ (Up.lay e hl) ⟨l, us, rfl, upd_same, Paired.mapP h3 fun _ _ => R.mono (Ex.new (fresh_back e hl))⟩⟩⟩
abbrev rAbs : List V → Hp → VK → Prop := fun xs H Q => ∃ i, xs = [.int i] ∧ Q (.int (if i < 0 then -i else i)) H
theorem rc_abs : RC rAbs (aC rI aN) rI (fun i => some (if i.1 < 0 then -i.1 else i.1)) := fun vs i z H G hv hz e Q q => by
  cases hz
  obtain ⟨v, ws, rfl, rfl, rfl⟩ := hv
  exact ⟨_, rfl, q _ H G (Up.refl e) rfl⟩
abbrev rMx : List V → Hp → VK → Prop := fun xs H Q => ∃ i j, xs = [.int i, .int j] ∧ Q (.int (if j > i then j else i)) H
abbrev rMn : List V → Hp → VK → Prop := fun xs H Q => ∃ i j, xs = [.int i, .int j] ∧ Q (.int (if j < i then j else i)) H
theorem rc_max2 : RC rMx (aC rI (aC rI aN)) rI (fun i => some (if i.2.1 > i.1 then i.2.1 else i.1)) := fun vs i z H G hv hz e Q q => by
  cases hz
  obtain ⟨v, ws, rfl, rfl, v2, ws2, rfl, rfl, rfl⟩ := hv
  exact ⟨_, _, rfl, q _ H G (Up.refl e) rfl⟩
theorem rc_min2 : RC rMn (aC rI (aC rI aN)) rI (fun i => some (if i.2.1 < i.1 then i.2.1 else i.1)) := fun vs i z H G hv hz e Q q => by
  cases hz
  obtain ⟨v, ws, rfl, rfl, v2, ws2, rfl, rfl, rfl⟩ := hv
  exact ⟨_, _, rfl, q _ H G (Up.refl e) rfl⟩
abbrev rInt : List V → Hp → VK → Prop := fun xs H Q => (∃ i, xs = [.int i] ∧ Q (.int i) H) ∨ ∃ k, xs = [.bl k] ∧ Q (.int (if k then 1 else 0)) H
theorem rc_intI : RC rInt (aC rI aN) rI (fun i => some i.1) := fun vs i z H G hv hz e Q q => by
  cases hz
  obtain ⟨v, ws, rfl, rfl, rfl⟩ := hv
  exact Or.inl ⟨_, rfl, q _ H G (Up.refl e) rfl⟩
theorem rc_intB : RC rInt (aC rB aN) rI (fun i => some (if i.1 then 1 else 0)) := fun vs i z H G hv hz e Q q => by
  cases hz
  obtain ⟨v, ws, rfl, rfl, rfl⟩ := hv
  exact Or.inr ⟨_, rfl, q _ H G (Up.refl e) rfl⟩
theorem pr_ints {H : Hp} : ∀ {vs : List V} {xs : List Int}, Paired (rI.r H) vs xs → vs = xs.map V.int
  | _, _, .nil => rfl
  | _, _, .cons r t => by rw [show _ = V.int _ from r, pr_ints t]; rfl
theorem ints_pr {H : Hp} : ∀ (xs : List Int), Paired (rI.r H) (xs.map V.int) xs
  | [] => .nil
  | x :: xs => .cons rfl (ints_pr xs)
/-- the sorted list, the least, the greatest: plain mirrors -/
def insI (x : Int) : List Int → List Int
  | [] => [x]
  | y :: ys => if x ≤ y then x :: y :: ys else y :: insI x ys
def srtI : List Int → List Int
  | [] => []
  | x :: xs => insI x (srtI xs)
theorem insI_perm (x : Int) : ∀ ys, (insI x ys).Perm (x :: ys)
  | [] => .refl _
  | y :: ys => by
    unfold insI
    split
    · exact .refl _
    · exact (List.Perm.cons y (insI_perm x ys)).trans (.swap x y ys)
theorem srtI_perm : ∀ xs, (srtI xs).Perm xs
  | [] => .refl _
  | x :: xs => (insI_perm x _).trans (.cons x (srtI_perm xs))
theorem insI_sorted (x : Int) : ∀ {ys : List Int}, ys.Pairwise (· ≤ ·) → (insI x ys).Pairwise (· ≤ ·)
  | [], _ => by simp [insI]
  | y :: ys, h => by
    unfold insI
    split
    · rename_i hxy
      refine List.pairwise_cons.mpr ⟨fun z hz => ?_, h⟩
      rcases List.mem_cons.mp hz with hz | hz
      · subst hz; exact hxy
      · exact Int.le_trans hxy ((List.pairwise_cons.mp h).1 z hz)
    · rename_i hxy
      refine List.pairwise_cons.mpr ⟨fun z hz => ?_, insI_sorted x (List.pairwise_cons.mp h).2⟩
      rcases List.mem_cons.mp ((insI_perm x ys).mem_iff.mp hz) with hz | hz
      · subst hz; omega
      · exact (List.pairwise_cons.mp h).1 z hz
theorem srtI_sorted : ∀ xs, (srtI xs).Pairwise (· ≤ ·)
  | [] => List.Pairwise.nil
  | x :: xs => insI_sorted x (srtI_sorted xs)
theorem srt_uniq : ∀ {xs ys : List Int}, xs.Perm ys → xs.Pairwise (· ≤ ·) → ys.Pairwise (· ≤ ·) → xs = ys
  | [], ys, p, _, _ => by simpa using p.symm.eq_nil
  | x :: xs, [], p, _, _ => by simpa using p.eq_nil
  | x :: xs, y :: ys, p, hx, hy => by
    have h1 : x ≤ y := by
      rcases List.mem_cons.mp (p.symm.subset (List.mem_cons_self ..) : y ∈ x :: xs) with h | h
      · omega
      · exact (List.pairwise_cons.mp hx).1 y h
    have h2 : y ≤ x := by
      rcases List.mem_cons.mp (p.subset (List.mem_cons_self ..) : x ∈ y :: ys) with h | h
      · omega
      · exact (List.pairwise_cons.mp hy).1 x h
    have e : x = y := by omega
    subst e
    rw [srt_uniq (List.Perm.cons_inv p) (List.pairwise_cons.mp hx).2 (List.pairwise_cons.mp hy).2]
theorem rc_sorted : RCL (rSorted K) (aC (rL rI) aN) rI (fun i => if i.1.length < 64 then some (srtI i.1) else none) := fun vs i z H G hv hz e Q q => by
  obtain ⟨v, ws, rfl, ⟨a, us, rfl, h2, h3⟩, rfl⟩ := hv
  have hz : (if i.1.length < 64 then some (srtI i.1) else none) = some z := hz
  split at hz
  · rename_i hl
    cases hz
    have h3' := pr_ints h3
    subst h3'
    refine ⟨a, i.1, rfl, Or.inl (Or.inl (e a _ h2)), hl, fun ns' p hp hs hn => ?_⟩
    have : ns' = srtI i.1 := srt_uniq (hp.trans (srtI_perm _).symm) hs (srtI_sorted _)
    subst this
    exact q p _ G hn (up_new e hn) (wd_new e hn (ints_pr _))
  · cases hz
def minL : List Int → Option Int
  | [] => none
  | [x] => some x
  | x :: y :: ys => (minL (y :: ys)).map fun m => if m < x then m else x
def maxL : List Int → Option Int
  | [] => none
  | [x] => some x
  | x :: y :: ys => (maxL (y :: ys)).map fun m => if m > x then m else x
theorem minL_ok : ∀ {xs : List Int} {m : Int}, minL xs = some m → m ∈ xs ∧ ∀ y ∈ xs, m ≤ y
  | [x], m, h => by cases h; exact ⟨List.mem_cons_self .., fun y hy => by rw [List.mem_singleton.mp hy]; exact Int.le_refl _⟩
  | x :: y :: ys, m, h => by
    unfold minL at h
    cases e : minL (y :: ys) with
    | none => rw [e] at h; cases h
    | some k =>
      obtain ⟨h1, h2⟩ := minL_ok e
      rw [e] at h
      have h' : (if k < x then k else x) = m := Option.some.inj h
      split at h'
      · subst h'
        exact ⟨List.mem_cons_of_mem _ h1, fun z hz => by
          rcases List.mem_cons.mp hz with hz | hz
          · omega
          · exact h2 z hz⟩
      · subst h'
        exact ⟨List.mem_cons_self .., fun z hz => by
          rcases List.mem_cons.mp hz with hz | hz
          · omega
          · have := h2 z hz; omega⟩
theorem maxL_ok : ∀ {xs : List Int} {m : Int}, maxL xs = some m → m ∈ xs ∧ ∀ y ∈ xs, y ≤ m
  | [x], m, h => by cases h; exact ⟨List.mem_cons_self .., fun y hy => by rw [List.mem_singleton.mp hy]; exact Int.le_refl _⟩
  | x :: y :: ys, m, h => by
    unfold maxL at h
    cases e : maxL (y :: ys) with
    | none => rw [e] at h; cases h
    | some k =>
      obtain ⟨h1, h2⟩ := maxL_ok e
      rw [e] at h
      have h' : (if k > x then k else x) = m := Option.some.inj h
      split at h'
      · subst h'
        exact ⟨List.mem_cons_of_mem _ h1, fun z hz => by
          rcases List.mem_cons.mp hz with hz | hz
          · omega
          · exact h2 z hz⟩
      · subst h'
        exact ⟨List.mem_cons_self .., fun z hz => by
          rcases List.mem_cons.mp hz with hz | hz
          · omega
          · have := h2 z hz; omega⟩
theorem rc_minL : RC (rMin K) (aC (rL rI) aN) rI (fun i => minL i.1) := fun vs i z H G hv hz e Q q => by
  obtain ⟨v, ws, rfl, ⟨a, us, rfl, h2, h3⟩, rfl⟩ := hv
  have h3' := pr_ints h3
  subst h3'
  obtain ⟨m1, m2⟩ := minL_ok hz
  refine ⟨a, i.1, rfl, Or.inl (Or.inl (e a _ h2)), List.length_pos_of_mem m1, fun m hm hle => ?_⟩
  have : m = z := by have := hle z m1; have := m2 m hm; omega
  subst this
  exact q _ H G (Up.refl e) rfl
theorem rc_maxL : RC (rMax K) (aC (rL rI) aN) rI (fun i => maxL i.1) := fun vs i z H G hv hz e Q q => by
  obtain ⟨v, ws, rfl, ⟨a, us, rfl, h2, h3⟩, rfl⟩ := hv
  have h3' := pr_ints h3
  subst h3'
  obtain ⟨m1, m2⟩ := maxL_ok hz
  refine ⟨a, i.1, rfl, Or.inl (Or.inl (e a _ h2)), List.length_pos_of_mem m1, fun m hm hle => ?_⟩
  have : m = z := by have := hle z m1; have := m2 m hm; omega
  subst this
  exact q _ H G (Up.refl e) rfl

/-! ### displays -/
theorem el_lst {ta : TA} {B : AR ι} {m : Option ι} {xs : ι → List α} (h : EA ta σ G W B m) (hb : ∀ G vs i, B.r G vs i → Paired (R.r G) vs (xs i)) (hl : ∀ i, (xs i).length < 100000) : EL (tLst ta) σ G W R (m >>= fun i => some (xs i)) := fun z hz H e e' Q q => by
  obtain ⟨i, hi, hz⟩ := bindS hz
  cases hz
  refine h i hi H e e' _ fun vs H1 G1 u1 r1 => ?_
  have pr := hb _ _ _ r1
  refine ⟨sz_of (by rw [pr.length]; exact Nat.le_of_lt (hl i)), fun p hp => q p _ G1 (fresh_back u1.hh hp) (u1.trans (up_new u1.gh hp)) (wd_new u1.gh hp pr)⟩
theorem e_pair {ma : Option α} {mb : Option β} (ha : E ta σ G W R ma) (hb : E tb σ G W S mb) : E (tTup (tCons ta (tCons tb tNil))) σ G W (rP R S) (ma >>= fun x => mb >>= fun y => some (x, y)) := fun z hz H e e' Q q => by
  obtain ⟨x, hx, hz⟩ := bindS hz
  obtain ⟨y, hy, hz⟩ := bindS hz
  cases hz
  refine ha x hx H e e' _ fun v H1 G1 u1 r1 => ?_
  refine (hb.mono u1.gg (e'.trans u1.hh)) y hy H1 u1.gh (Ex.refl _) _ fun w H2 G2 u2 r2 => ?_
  refine ⟨by show 2 ≤ sizeLine; decide, fun p hp => q _ _ _ ((u1.trans u2).trans (Up.lay u2.gh hp)) ⟨p, v, w, rfl, upd_same, R.mono (u2.gg.trans (Ex.new (fresh_back u2.gh hp))) r1, S.mono (Ex.new (fresh_back u2.gh hp)) r2⟩⟩
end
end Sim

namespace Sim
open PySem L2 Evl

/-! ### mirrors of loops -/
inductive Stp (σ ρ : Type) where
  | nx (s : σ)
  | br (s : σ)
  | rt (r : ρ)
section
variable {α σ ρ : Type}
def stpK (k : σ → Option (σ ⊕ ρ)) : Stp σ ρ → Option (σ ⊕ ρ)
  | .nx s => k s
  | .br s => some (.inl s)
  | .rt r => some (.inr r)
def forL (body : α → σ → Option (Stp σ ρ)) : List α → σ → Option (σ ⊕ ρ)
  | [], s => some (.inl s)
  | x :: xs, s => body x s >>= stpK (forL body xs)
def forS (body : α → σ → Option σ) : List α → σ → Option σ
  | [], s => some s
  | x :: xs, s => body x s >>= forS body xs
def whL (c : σ → Option Bool) (body : σ → Option (Stp σ ρ)) : Nat → σ → Option (σ ⊕ ρ)
  | 0, _ => none
  | n + 1, s => c s >>= fun b => bif b then body s >>= stpK (whL c body n) else some (.inl s)
theorem drop_at {xs : List α} {i : Nat} {x : α} (h : xs[i]? = some x) : xs.drop i = x :: xs.drop (i + 1) := by
  obtain ⟨hl, e⟩ := List.getElem?_eq_some_iff.mp h
  rw [List.drop_eq_getElem_cons hl, e]
theorem forL_at {body : α → σ → Option (Stp σ ρ)} {xs : List α} {i : Nat} {x : α} {s : σ} {r : σ ⊕ ρ} (h : xs[i]? = some x) (hm : forL body (xs.drop i) s = some r) :
    ∃ t, body x s = some t ∧ stpK (forL body (xs.drop (i + 1))) t = some r := by
  rw [drop_at h] at hm
  exact bindS hm
theorem forL_end {body : α → σ → Option (Stp σ ρ)} {xs : List α} {s : σ} {r : σ ⊕ ρ} (hm : forL body (xs.drop xs.length) s = some r) : .inl s = r := by
  rw [List.drop_length] at hm
  exact Option.some.inj hm
theorem forS_at {body : α → σ → Option σ} {xs : List α} {i : Nat} {x : α} {s r : σ} (h : xs[i]? = some x) (hm : forS body (xs.drop i) s = some r) :
    ∃ t, body x s = some t ∧ forS body (xs.drop (i + 1)) t = some r := by
  rw [drop_at h] at hm
  exact bindS hm
theorem forS_end {body : α → σ → Option σ} {xs : List α} {s r : σ} (hm : forS body (xs.drop xs.length) s = some r) : s = r := by
  rw [List.drop_length] at hm
  exact Option.some.inj hm
end
/-- range(lo, hi) -/
def rng (lo hi : Int) : List Int := (List.range (hi - lo).toNat).map fun (i : Nat) => lo + (i : Int)
theorem rng_at {lo hi : Int} {i : Nat} {x : Int} (h : (rng lo hi)[i]? = some x) : x = lo + i ∧ lo + i < hi := by
  unfold rng at h
  rw [List.getElem?_map] at h
  cases e : (List.range (hi - lo).toNat)[i]? with
  | none => rw [e] at h; cases h
  | some k =>
    rw [e] at h
    obtain ⟨hl, ek⟩ := List.getElem?_eq_some_iff.mp e
    rw [List.getElem_range] at ek
    rw [List.length_range] at hl
    subst ek
    exact ⟨(Option.some.inj h).symm, by omega⟩
theorem rng_get {lo hi : Int} {i : Nat} (h : i < (hi - lo).toNat) : (rng lo hi)[i]? = some (lo + i) := by
  unfold rng
  rw [List.getElem?_map, List.getElem?_range h]
  rfl
theorem rng_len (lo hi : Int) : (rng lo hi).length = (hi - lo).toNat := by
  unfold rng
  rw [List.length_map, List.length_range]
def rngM (lo hi : Int) : Option (List Int) := if -100000 ≤ lo ∧ lo ≤ 100000 ∧ -100000 ≤ hi ∧ hi ≤ 100000 then some (rng lo hi) else none

/-! ### the world of a def -/
structure Wo (G0 H0 : Hp) (ls : List Addr) (G H : Hp) (cs : Cs) : Prop where
  w : Wd G H cs
  f : Fr G0 H0 G H ls
  lo : ∀ c ∈ cs, c.1 ∈ ls ∨ H0 c.1 = none
section
variable {K : PySem.W.Frag} {σ : L2.St} {G0 H0 G H G2 H2 : Hp} {ls : List Addr} {cs : Cs} {l : Addr} {cp cp' : CP} {ta tb te tc : TE} {t u : TT} {α β γ ι κ : Type} {R : Rep α} {S : Rep β} {T : Rep γ} {A : AR ι}
theorem Wo.ex (w : Wo G0 H0 ls G H cs) : Ex G H := w.w.ex
theorem Wo.up (w : Wo G0 H0 ls G H cs) (u : Up G H G2 H2) : Wo G0 H0 ls G2 H2 cs := ⟨w.w.up u, w.f.trans u.fr, w.lo⟩
theorem Wo.sc (w : Wo G0 H0 ls G H cs) (u : Ex H H2) : Wo G0 H0 ls G H2 cs := w.up (Up.same w.ex u)
theorem Wo.start (e : Ex G H) : Wo G H [] G H [] := ⟨Wd.nil e, Fr.refl, fun _ h => absurd h List.not_mem_nil⟩
theorem Wo.startC (w : Wd G H cs) : Wo G H (cs.map (·.1)) G H cs := ⟨w, Fr.refl, fun c h => .inl (List.mem_map_of_mem (f := (·.1)) h)⟩
/-- the i-th cell -/
theorem Wd.getAt {i : Nat} (w : Wd G H cs) (h : cs[i]? = some (l, cp)) : G l = none ∧ ∃ o, H l = some o ∧ cp.p G o := w.at_ _ (List.mem_of_getElem? h)
theorem Wo.rlAt {i : Nat} {xs : List α} (w : Wo G0 H0 ls G H cs) (h : cs[i]? = some (l, cL R xs)) : (rL R).r H (.ref l) xs := by
  obtain ⟨h1, o, h2, vs, rfl, h3⟩ := w.w.getAt h
  exact ⟨l, vs, rfl, h2, Paired.mapP h3 fun _ _ => R.mono w.ex⟩
theorem set_map {i : Nat} {c : Addr × CP} (h : cs[i]? = some c) : (cs.set i (c.1, cp')).map (·.1) = cs.map (·.1) := by
  rw [List.map_set]
  have : (cs.map (·.1))[i]? = some c.1 := by rw [List.getElem?_map, h]; rfl
  obtain ⟨hl, e⟩ := List.getElem?_eq_some_iff.mp this
  conv => lhs; rw [← e]
  exact List.set_getElem_self hl
theorem nodup_ix {as : List Addr} (nd : as.Nodup) {i j : Nat} {x : Addr} (h1 : as[i]? = some x) (h2 : as[j]? = some x) : i = j := by
  obtain ⟨a1, a2⟩ := List.getElem?_eq_some_iff.mp h1
  obtain ⟨b1, b2⟩ := List.getElem?_eq_some_iff.mp h2
  have p := List.pairwise_iff_getElem.mp nd
  rcases Nat.lt_trichotomy i j with q | q | q
  · exact absurd (a2.trans b2.symm) (p i j a1 b1 q)
  · exact q
  · exact absurd (b2.trans a2.symm) (p j i b1 a1 q)
theorem mem_set_cell {i : Nat} {c : Addr × CP} (nd : (cs.map (·.1)).Nodup) (h : cs[i]? = some (l, cp)) (hc : c ∈ cs.set i (l, cp')) : c = (l, cp') ∨ (c ∈ cs ∧ c.1 ≠ l) := by
  obtain ⟨j, hj, e⟩ := List.getElem_of_mem hc
  by_cases q : i = j
  · subst q; left; rw [← e]; simp
  · right
    rw [List.getElem_set_ne q] at e
    have hj' : j < cs.length := by rw [List.length_set] at hj; exact hj
    refine ⟨e ▸ List.getElem_mem hj', fun z => q ?_⟩
    have h1 : (cs.map (·.1))[i]? = some l := by rw [List.getElem?_map, h]; rfl
    have h2 : (cs.map (·.1))[j]? = some l := by rw [List.getElem?_map, List.getElem?_eq_getElem hj', e]; exact congrArg some z
    exact nodup_ix nd h1 h2
theorem Fr.put (f : Fr G0 H0 G H ls) {o : HO} (h : l ∈ ls ∨ H0 l = none) : Fr G0 H0 G (upd H l o) ls := ⟨f.gg, fun a u h1 h2 => by
  have ne : a ≠ l := fun z => by
    subst z
    rcases h with h | h
    · exact h2 h
    · rw [h] at h1; cases h1
  rw [upd_ne ne]; exact f.fr a u h1 h2, f.nw, fun a h1 => by
  by_cases q : a = l
  · subst q; rw [upd_same]; simp
  · rw [upd_ne q]; exact f.st a h1⟩
theorem Wo.writeAt {i : Nat} (w : Wo G0 H0 ls G H cs) (h : cs[i]? = some (l, cp)) {o : HO} (hp : cp'.p G o) : Wo G0 H0 ls G (upd H l o) (cs.set i (l, cp')) := by
  obtain ⟨h1, o1, h2, h3⟩ := w.w.getAt h
  have hl : l ∈ ls ∨ H0 l = none := w.lo _ (List.mem_of_getElem? h)
  refine ⟨⟨fun a u e => ?_, fun c hc => ?_, ?_⟩, w.f.put hl, fun c hc => ?_⟩
  · rw [upd_ne (fun z => by subst z; rw [h1] at e; cases e)]; exact w.ex a u e
  · rcases mem_set_cell w.w.nd h hc with hc | ⟨hc, ne⟩
    · subst hc; exact ⟨h1, o, upd_same, hp⟩
    · obtain ⟨k1, o', k2, k3⟩ := w.w.at_ c hc
      exact ⟨k1, o', by rw [upd_ne ne]; exact k2, k3⟩
  · rw [set_map (c := (l, cp)) h]; exact w.w.nd
  · rcases mem_set_cell w.w.nd h hc with hc | ⟨hc, ne⟩
    · subst hc; exact hl
    · exact w.lo c hc
theorem Wo.new (w : Wo G0 H0 ls G H cs) {o : HO} (n : H l = none) (h : cp.p G o) : Wo G0 H0 ls G (upd H l o) ((l, cp) :: cs) := by
  have n0 : H0 l = none := by
    cases q : H0 l with
    | none => rfl
    | some o => exact absurd n (w.f.st l (by rw [q]; simp))
  exact ⟨w.w.new n h, w.f.put (.inr n0), fun c hc => by
    rcases List.mem_cons.mp hc with hc | hc
    · subst hc; exact .inr n0
    · exact w.lo c hc⟩
/-- a new list made by an expression becomes a cell -/
theorem Wo.newL {p : Addr} {xs : List α} (w : Wo G0 H0 ls G H cs) (n : H p = none) (u : Up G H G2 H2) (w2 : Wd G2 H2 [(p, cL R xs)]) : Wo G0 H0 ls G2 H2 ((p, cL R xs) :: cs) := by
  have n0 : H0 p = none := by
    cases q : H0 p with
    | none => rfl
    | some o => exact absurd n (w.f.st p (by rw [q]; simp))
  have w3 := w.up u
  refine ⟨⟨w3.ex, fun c hc => ?_, ?_⟩, w3.f, fun c hc => ?_⟩
  · rcases List.mem_cons.mp hc with hc | hc
    · subst hc; exact w2.head
    · exact w3.w.at_ c hc
  · refine List.nodup_cons.mpr ⟨fun hm => ?_, w.w.nd⟩
    obtain ⟨c, hc, e⟩ := List.mem_map.mp hm
    obtain ⟨_, o', h2, _⟩ := w.w.at_ c hc
    exact ne_of_none h2 n e
  · rcases List.mem_cons.mp hc with hc | hc
    · subst hc; exact .inr n0
    · exact w.lo c hc
theorem Wo.dropAt (w : Wo G0 H0 ls G H cs) (i : Nat) : Wo G0 H0 ls G H (cs.eraseIdx i) := ⟨⟨w.ex, fun c hc => w.w.at_ c (List.mem_of_mem_eraseIdx hc), 
  List.Pairwise.sublist ((List.eraseIdx_sublist cs i).map (·.1)) w.w.nd⟩, w.f, fun c hc => w.lo c (List.mem_of_mem_eraseIdx hc)⟩
/-- a list cell of the def's own becomes data -/
theorem Wo.freezeAt {i : Nat} {xs : List α} (w : Wo G0 H0 ls G H cs) (h : cs[i]? = some (l, cL R xs)) (hl : H0 l = none) : ∃ G2, Wo G0 H0 ls G2 H (cs.eraseIdx i) ∧ Ex G G2 ∧ (rL R).r G2 (.ref l) xs := by
  obtain ⟨h1, o, h2, vs, rfl, h3⟩ := w.w.getAt h
  refine ⟨upd G l (.lst vs), ⟨⟨fun a u e => ?_, fun c hc => ?_, ?_⟩, ⟨w.f.gg.trans (Ex.new h1), w.f.fr, fun a k1 k2 => ?_, w.f.st⟩, fun c hc => w.lo c (List.mem_of_mem_eraseIdx hc)⟩, Ex.new h1, l, vs, rfl, upd_same, Paired.mapP h3 fun _ _ => R.mono (Ex.new h1)⟩
  · by_cases q : a = l
    · subst q; rw [upd_same] at e; cases e; exact h2
    · rw [upd_ne q] at e; exact w.ex a u e
  · obtain ⟨k1, o', k2, k3⟩ := w.w.at_ c (List.mem_of_mem_eraseIdx hc)
    obtain ⟨j, hj, e⟩ := List.getElem?_of_mem hc |>.imp fun _ h => (⟨trivial, h⟩ : True ∧ _)
    have ne : c.1 ≠ l := fun z => by
      rw [List.getElem?_eraseIdx] at e
      have hi : (cs.map (·.1))[i]? = some l := by rw [List.getElem?_map, h]; rfl
      split at e
      · rename_i hlt
        have : (cs.map (·.1))[j]? = some l := by rw [List.getElem?_map, e]; exact congrArg some z
        have := nodup_ix w.w.nd hi this
        omega
      · rename_i hlt
        have : (cs.map (·.1))[j + 1]? = some l := by rw [List.getElem?_map, e]; exact congrArg some z
        have := nodup_ix w.w.nd hi this
        omega
    exact ⟨by rw [upd_ne ne]; exact k1, o', k2, c.2.mono (Ex.new h1) k3⟩
  · exact List.Pairwise.sublist ((List.eraseIdx_sublist cs i).map (·.1)) w.w.nd
  · have ne : a ≠ l := fun z => by subst z; exact k1 hl
    rw [upd_ne ne]; exact w.f.nw a k1 k2
/-- behind a call that changed the i-th cell alone -/
theorem Wo.call1 {i : Nat} (w : Wo G0 H0 ls G H cs) (h : cs[i]? = some (l, cp)) (f : Fr G H G2 H2 [l]) (w2 : Wd G2 H2 [(l, cp')]) : Wo G0 H0 ls G2 H2 (cs.set i (l, cp')) := by
  have hl : l ∈ ls ∨ H0 l = none := w.lo _ (List.mem_of_getElem? h)
  refine ⟨⟨w2.ex, fun c hc => ?_, by rw [set_map (c := (l, cp)) h]; exact w.w.nd⟩, ⟨w.f.gg.trans f.gg, fun a o h1 h2 => ?_, fun a h1 h2 => f.nw a (w.f.st a h1) (w.f.nw a h1 h2), fun a h1 => f.st a (w.f.st a h1)⟩, fun c hc => ?_⟩
  · rcases mem_set_cell w.w.nd h hc with hc | ⟨hc, ne⟩
    · subst hc; exact w2.head
    · obtain ⟨k1, o', k2, k3⟩ := w.w.at_ c hc
      exact ⟨f.nw _ (by rw [k2]; simp) k1, o', f.fr _ _ k2 (fun z => ne (List.mem_singleton.mp z)), c.2.mono f.gg k3⟩
  · refine f.fr a o (w.f.fr a o h1 h2) fun z => ?_
    rw [List.mem_singleton.mp z] at h1 h2
    rcases hl with q | q
    · exact h2 q
    · rw [q] at h1; cases h1
  · rcases mem_set_cell w.w.nd h hc with hc | ⟨hc, ne⟩
    · subst hc; exact hl
    · exact w.lo c hc
theorem Wo.sub1 {i : Nat} (w : Wo G0 H0 ls G H cs) (h : cs[i]? = some (l, cp)) : Wd G H [(l, cp)] := ⟨w.ex, fun c hc => by
  rw [List.mem_singleton.mp hc]; exact w.w.at_ _ (List.mem_of_getElem? h), List.nodup_cons.mpr ⟨List.not_mem_nil, List.nodup_nil⟩⟩
/-- the ends of a def -/
theorem Wo.upE (w : Wo G0 H0 [] G H cs) : Up G0 H0 G H := ⟨w.f.gg, w.ex, fun a o h => w.f.fr a o h List.not_mem_nil, w.f.nw⟩
end
end Sim

namespace Sim
open PySem L2 Evl
section
variable {K : PySem.W.Frag} {σ : L2.St} {G0 H0 G H G2 H2 W : Hp} {ls : List Addr} {cs : Cs} {l : Addr} {cp cp' : CP} {ta tb te tc : TE} {t u : TT} {α β γ ι κ : Type} {R : Rep α} {S : Rep β} {T : Rep γ} {A : AR ι} {D : Ends} {tu tv tz : TS} {g : TG}

/-! ### expressions in the world -/
theorem c_e {m : Option α} {x : α} {Q : VK} (w : Wo G0 H0 ls G H cs) (h : E te σ G H R m) (hm : m = some x) (k : ∀ v H2 G2, Wo G0 H0 ls G2 H2 cs → Ex G G2 → R.r G2 v x → Q v H2) : te σ H Q :=
  h x hm H w.ex (Ex.refl _) Q fun v H2 G2 u r => k v H2 G2 (w.up u) u.gg r
/-- scalars: the value is written out, the data heap stays -/
theorem c_i {m : Option Int} {x : Int} {Q : VK} (w : Wo G0 H0 ls G H cs) (h : E te σ G H rI m) (hm : m = some x) (k : ∀ H2, Wo G0 H0 ls G H2 cs → Q (.int x) H2) : te σ H Q :=
  h x hm H w.ex (Ex.refl _) Q fun v H2 G2 u r => by cases r; exact k H2 (w.sc u.hh)
theorem c_b {m : Option Bool} {x : Bool} {Q : VK} (w : Wo G0 H0 ls G H cs) (h : E te σ G H rB m) (hm : m = some x) (k : ∀ H2, Wo G0 H0 ls G H2 cs → Q (.bl x) H2) : te σ H Q :=
  h x hm H w.ex (Ex.refl _) Q fun v H2 G2 u r => by cases r; exact k H2 (w.sc u.hh)
theorem c_s {m : Option Str} {x : Str} {Q : VK} (w : Wo G0 H0 ls G H cs) (h : E te σ G H rS m) (hm : m = some x) (k : ∀ H2, Wo G0 H0 ls G H2 cs → Q (.str x) H2) : te σ H Q :=
  h x hm H w.ex (Ex.refl _) Q fun v H2 G2 u r => by cases r; exact k H2 (w.sc u.hh)
theorem c_l {m : Option (List α)} {x : List α} {Q : VK} (w : Wo G0 H0 ls G H cs) (h : EL te σ G H R m) (hm : m = some x) (k : ∀ p H2 G2, H0 p = none → Wo G0 H0 ls G2 H2 ((p, cL R x) :: cs) → Ex G G2 → Q (.ref p) H2) : te σ H Q :=
  h x hm H w.ex (Ex.refl _) Q fun p H2 G2 hp u w2 => k p H2 G2 (by
    cases q : H0 p with
    | none => rfl
    | some o => exact absurd hp (w.f.st p (by rw [q]; simp))) (w.newL hp u w2) u.gg
theorem c_t {m : Option Bool} {b : Bool} {Q : Bool → Hp → Prop} (w : Wo G0 H0 ls G H cs) (h : ET t σ H m) (hm : m = some b) (k : ∀ H2, Wo G0 H0 ls G H2 cs → Q b H2) : t σ H Q :=
  h b hm H (Ex.refl _) Q fun H2 e => k H2 (w.sc e)
theorem c_a {m : Option ι} {x : ι} {ta : TA} {Q : List V → Hp → Prop} (w : Wo G0 H0 ls G H cs) (h : EA ta σ G H A m) (hm : m = some x) (k : ∀ vs H2 G2, Wo G0 H0 ls G2 H2 cs → Ex G G2 → A.r G2 vs x → Q vs H2) : ta σ H Q :=
  h x hm H w.ex (Ex.refl _) Q fun v H2 G2 u r => k v H2 G2 (w.up u) u.gg r
/-- an operation on values that stand -/
theorem c_rr {r : R2} {f : α → β → Option γ} {v w' : V} {x : α} {y : β} {z : γ} {Q : VK} (hr : RR r R S T f) (w : Wo G0 H0 ls G H cs) (hv : R.r G v x) (hw : S.r G w' y) (hz : f x y = some z)
    (k : ∀ u H2 G2, Wo G0 H0 ls G2 H2 cs → Ex G G2 → T.r G2 u z → Q u H2) : r v w' H Q := hr v w' x y z H G hv hw hz w.ex Q fun u H2 G2 up r => k u H2 G2 (w.up up) up.gg r
theorem c_rc {r : List V → Hp → VK → Prop} {f : ι → Option γ} {vs : List V} {i : ι} {z : γ} {Q : VK} (hr : RC r A T f) (w : Wo G0 H0 ls G H cs) (hv : A.r G vs i) (hz : f i = some z)
    (k : ∀ u H2 G2, Wo G0 H0 ls G2 H2 cs → Ex G G2 → T.r G2 u z → Q u H2) : r vs H Q := hr vs i z H G hv hz w.ex Q fun u H2 G2 up r => k u H2 G2 (w.up up) up.gg r
theorem c_rcl {r : List V → Hp → VK → Prop} {f : ι → Option (List γ)} {vs : List V} {i : ι} {z : List γ} {Q : VK} (hr : RCL r A T f) (w : Wo G0 H0 ls G H cs) (hv : A.r G vs i) (hz : f i = some z)
    (k : ∀ p H2 G2, H0 p = none → Wo G0 H0 ls G2 H2 ((p, cL T z) :: cs) → Ex G G2 → Q (.ref p) H2) : r vs H Q := hr vs i z H G hv hz w.ex Q fun p H2 G2 hp u w2 => k p H2 G2 (by
    cases q : H0 p with
    | none => rfl
    | some o => exact absurd hp (w.f.st p (by rw [q]; simp))) (w.newL hp u w2) u.gg

/-! ### a def that changes one cell -/
/-- (l, more) with the cell's items ys: f ys more = (x, ys') -/
abbrev P1 {κ α ι : Type} (A : AR ι) (C : Rep κ) (R : Rep α) (f : List κ → ι → Option (α × List κ)) : Sp := PM (aC rA A) (fun i k => [(i.1, cL C k)]) R (fun i k => f k i.2)
abbrev P1L {κ α ι : Type} (A : AR ι) (C : Rep κ) (R : Rep α) (f : List κ → ι → Option (List α × List κ)) : Sp := PML (aC rA A) (fun i k => [(i.1, cL C k)]) R (fun i k => f k i.2)
theorem c_p1 {C : Rep κ} {f : List κ → ι → Option (α × List κ)} {vs : List V} {i : Nat} {j : ι} {ys ys' : List κ} {x : α} {Q : VK} {X : XK} (w : Wo G0 H0 ls G H cs) (hc : cs[i]? = some (l, cL C ys)) (hv : A.r G vs j) (hz : f ys j = some (x, ys'))
    (k : ∀ v H2 G2, Wo G0 H0 ls G2 H2 (cs.set i (l, cL C ys')) → Ex G G2 → R.r G2 v x → Q v H2) : P1 A C R f (.ref l :: vs) H Q X :=
  ⟨G, (l, j), ys, x, ys', ⟨.ref l, vs, rfl, rfl, hv⟩, w.sub1 hc, hz, fun v H2 G2 fr w2 r => k v H2 G2 (w.call1 hc fr w2) fr.gg r⟩
theorem Wo.call1L {i : Nat} {p : Addr} {cq : CP} (w : Wo G0 H0 ls G H cs) (h : cs[i]? = some (l, cp)) (hp : H p = none) (f : Fr G H G2 H2 [l]) (w2 : Wd G2 H2 [(p, cq), (l, cp')]) : Wo G0 H0 ls G2 H2 ((p, cq) :: cs.set i (l, cp')) := by
  have n0 : H0 p = none := by
    cases q : H0 p with
    | none => rfl
    | some o => exact absurd hp (w.f.st p (by rw [q]; simp))
  have w3 := w.call1 h f w2.tail
  refine ⟨⟨w3.ex, fun c hc => ?_, ?_⟩, w3.f, fun c hc => ?_⟩
  · rcases List.mem_cons.mp hc with hc | hc
    · subst hc; exact w2.head
    · exact w3.w.at_ c hc
  · refine List.nodup_cons.mpr ⟨fun hm => ?_, w3.w.nd⟩
    rw [Sim.set_map (c := (l, cp)) h] at hm
    obtain ⟨c, hc, e⟩ := List.mem_map.mp hm
    obtain ⟨_, o', h2, _⟩ := w.w.at_ c hc
    exact ne_of_none h2 hp e
  · rcases List.mem_cons.mp hc with hc | hc
    · subst hc; exact .inr n0
    · exact w3.lo c hc
theorem c_p1l {C : Rep κ} {f : List κ → ι → Option (List α × List κ)} {vs : List V} {i : Nat} {j : ι} {ys ys' : List κ} {x : List α} {Q : VK} {X : XK} (w : Wo G0 H0 ls G H cs) (hc : cs[i]? = some (l, cL C ys)) (hv : A.r G vs j) (hz : f ys j = some (x, ys'))
    (k : ∀ p H2 G2, H0 p = none → Wo G0 H0 ls G2 H2 ((p, cL R x) :: cs.set i (l, cL C ys')) → Ex G G2 → Q (.ref p) H2) : P1L A C R f (.ref l :: vs) H Q X :=
  ⟨G, (l, j), ys, x, ys', ⟨.ref l, vs, rfl, rfl, hv⟩, w.sub1 hc, hz, fun p H2 G2 hp fr w2 => k p H2 G2 (by
    cases q : H0 p with
    | none => rfl
    | some o => exact absurd hp (w.f.st p (by rw [q]; simp))) (w.call1L hc hp fr w2) fr.gg⟩

/-! ### readings opened -/
theorem o_nil {Q : List V → Hp → Prop} (h : Q [] H) : tNil σ H Q := h
theorem o_cons {tr : TA} {Q : List V → Hp → Prop} (h : ta σ H fun x H1 => tr σ H1 fun xs H2 => Q (x :: xs) H2) : tCons ta tr σ H Q := h
theorem o_op {r : R2} {Q : VK} (h : ta σ H fun x H1 => tb σ H1 fun y H2 => r x y H2 Q) : tOp r ta tb σ H Q := h
theorem o_call {sp : Sp} {X : XK} {ta : TA} {Q : VK} (h : ta σ H fun vs H1 => sp vs H1 Q X) : tCall sp [] X ta σ H Q := by
  show ta σ H fun vs H1 => sp (vs ++ []) H1 Q X
  have : (fun (vs : List V) (H1 : Hp) => sp (vs ++ []) H1 Q X) = fun vs H1 => sp vs H1 Q X := by funext vs H1; rw [List.append_nil]
  rw [this]; exact h
theorem o_cb {r : List V → Hp → VK → Prop} {ta : TA} {Q : VK} (h : ta σ H fun vs H1 => r vs H1 Q) : tCB r ta σ H Q := h
theorem o_var {i : Nat} {v : V} {Q : VK} (hi : σ[i]? = some (some v)) (h : Q v H) : tVar i σ H Q := ⟨v, hi, h⟩
theorem o_T {Q : Bool → Hp → Prop} (h : te σ H fun v H1 => ∃ b, v = .bl b ∧ Q b H1) : tTest te σ H Q := h
theorem o_B {Q : Bool → Hp → Prop} (h : te σ H fun v H1 => ∃ b, v = .bl b ∧ Q b H1) : tB te σ H Q := h

/-! ### statements -/
theorem x_next {f b c : L2.St → Hp → Prop} {r : VK} (h : f σ H) : tNext { nx := f, rt := r, bk := b, ct := c } σ H := h
theorem x_set {i : Nat} {m : Option α} {x : α} (w : Wo G0 H0 ls G H cs) (h : E te σ G H R m) (hm : m = some x) (k : ∀ v H2 G2, Wo G0 H0 ls G2 H2 cs → Ex G G2 → R.r G2 v x → tz D (σ.set i (some v)) H2) : tSeq (tAsg te (gName i)) tz D σ H :=
  c_e (Q := fun x H1 => gName i x σ H1 (tz D)) w h hm k
theorem x_setI {i : Nat} {m : Option Int} {x : Int} (w : Wo G0 H0 ls G H cs) (h : E te σ G H rI m) (hm : m = some x) (k : ∀ H2, Wo G0 H0 ls G H2 cs → tz D (σ.set i (some (.int x))) H2) : tSeq (tAsg te (gName i)) tz D σ H :=
  c_i (Q := fun x H1 => gName i x σ H1 (tz D)) w h hm k
theorem x_setB {i : Nat} {m : Option Bool} {x : Bool} (w : Wo G0 H0 ls G H cs) (h : E te σ G H rB m) (hm : m = some x) (k : ∀ H2, Wo G0 H0 ls G H2 cs → tz D (σ.set i (some (.bl x))) H2) : tSeq (tAsg te (gName i)) tz D σ H :=
  c_b (Q := fun x H1 => gName i x σ H1 (tz D)) w h hm k
theorem x_setS {i : Nat} {m : Option Str} {x : Str} (w : Wo G0 H0 ls G H cs) (h : E te σ G H rS m) (hm : m = some x) (k : ∀ H2, Wo G0 H0 ls G H2 cs → tz D (σ.set i (some (.str x))) H2) : tSeq (tAsg te (gName i)) tz D σ H :=
  c_s (Q := fun x H1 => gName i x σ H1 (tz D)) w h hm k
theorem x_setL {i : Nat} {m : Option (List α)} {x : List α} (w : Wo G0 H0 ls G H cs) (h : EL te σ G H R m) (hm : m = some x) (k : ∀ p H2 G2, H0 p = none → Wo G0 H0 ls G2 H2 ((p, cL R x) :: cs) → Ex G G2 → tz D (σ.set i (some (.ref p))) H2) : tSeq (tAsg te (gName i)) tz D σ H :=
  c_l (Q := fun x H1 => gName i x σ H1 (tz D)) w h hm k
/-- name = an expression that changes cells: opened -/
theorem x_setO {i : Nat} (h : te σ H fun v H1 => tz D (σ.set i (some v)) H1) : tSeq (tAsg te (gName i)) tz D σ H := h
theorem x_if {m : Option Bool} {b : Bool} (w : Wo G0 H0 ls G H cs) (h : ET t σ H m) (hm : m = some b) (h1 : b = true → ∀ H2, Wo G0 H0 ls G H2 cs → tu { D with nx := tz D } σ H2) (h2 : b = false → ∀ H2, Wo G0 H0 ls G H2 cs → tv { D with nx := tz D } σ H2) :
    tSeq (tIfS t tu tv) tz D σ H := c_t (Q := fun b H1 => if b = true then tu { D with nx := tz D } σ H1 else tv { D with nx := tz D } σ H1) w h hm fun H2 w2 => by
  cases b with
  | true => exact h1 rfl H2 w2
  | false => exact h2 rfl H2 w2
/-- an if whose test changes cells -/
theorem x_ifO {b : Bool → Prop} (h : t σ H fun b H1 => (b = true → tu { D with nx := tz D } σ H1) ∧ (b = false → tv { D with nx := tz D } σ H1)) (mono : ∀ Q Q' : Bool → Hp → Prop, (∀ b H, Q b H → Q' b H) → t σ H Q → t σ H Q') : tSeq (tIfS t tu tv) tz D σ H :=
  mono _ _ (fun b H ⟨h1, h2⟩ => by
    cases b with
    | true => exact h1 rfl
    | false => exact h2 rfl) h
theorem x_cutif {m : Option Bool} {b : Bool} (M : L2.St → Hp → Prop) (w : Wo G0 H0 ls G H cs) (h : ET t σ H m) (hm : m = some b) (h1 : b = true → ∀ H2, Wo G0 H0 ls G H2 cs → tu { D with nx := M } σ H2) (h2 : b = false → ∀ H2, Wo G0 H0 ls G H2 cs → tv { D with nx := M } σ H2)
    (k : ∀ σ' H', M σ' H' → tz D σ' H') : tCut (tIfS t tu tv) tz D σ H := ⟨M, c_t (Q := fun b H1 => if b = true then tu { D with nx := M } σ H1 else tv { D with nx := M } σ H1) w h hm fun H2 w2 => by
  cases b with
  | true => exact h1 rfl H2 w2
  | false => exact h2 rfl H2 w2, k⟩
theorem x_ret {m : Option α} {x : α} (w : Wo G0 H0 ls G H cs) (h : E te σ G H R m) (hm : m = some x) (k : ∀ v H2 G2, Wo G0 H0 ls G2 H2 cs → Ex G G2 → R.r G2 v x → D.rt v H2) : tSeq (tRet te) tz D σ H := c_e (Q := D.rt) w h hm k
theorem x_retL {m : Option (List α)} {x : List α} (w : Wo G0 H0 ls G H cs) (h : EL te σ G H R m) (hm : m = some x) (k : ∀ p H2 G2, H0 p = none → Wo G0 H0 ls G2 H2 ((p, cL R x) :: cs) → Ex G G2 → D.rt (.ref p) H2) : tSeq (tRet te) tz D σ H := c_l (Q := D.rt) w h hm k
theorem x_retO (h : te σ H D.rt) : tSeq (tRet te) tz D σ H := h
theorem x_drop (h : te σ H fun _ H1 => tz D σ H1) : tSeq (tDrop te) tz D σ H := h
theorem x_aug {i : Nat} {a b z : Int} {m : Option Int} {f : Int → Int → Option Int} {ti : TIp} (w : Wo G0 H0 ls G H cs) (hi : σ[i]? = some (some (.int a))) (h : E te σ G H rI m) (hm : m = some b) (hr : RR ti rI rI rI f) (hz : f a b = some z)
    (k : ∀ H2, Wo G0 H0 ls G H2 cs → tz D (σ.set i (some (.int z))) H2) : tSeq (tAug i te ti) tz D σ H :=
  ⟨.int a, hi, c_i (Q := fun y H1 => ti (.int a) y H1 fun z H2 => tz D (σ.set i (some z)) H2) w h hm fun H2 w2 => hr _ _ a b z H2 G rfl rfl hz w2.ex _ fun u H3 G3 up r => by cases r; exact k H3 (w2.sc up.hh)⟩
/-! ### list cells, by methods -/
theorem x_app {i j : Nat} {m : Option α} {x : α} {xs : List α} (w : Wo G0 H0 ls G H cs) (hc : cs[j]? = some (l, cL R xs)) (hs : sz xs.length = true) (hi : σ[i]? = some (some (.ref l))) (h : E te σ G H R m) (hm : m = some x)
    (k : ∀ H2 G2, Wo G0 H0 ls G2 H2 (cs.set j (l, cL R (xs ++ [x]))) → Ex G G2 → tz D σ H2) : tSeq (tDrop (tBM K "list" rAppend (tVar i) (tCons te tNil))) tz D σ H := by
  obtain ⟨_, o, h2, vs, rfl, h3⟩ := w.w.getAt hc
  refine ⟨.ref l, hi, .inl ⟨rfl, vs, Or.inl (Or.inl h2)⟩, c_e (Q := fun x H1 => rAppend (.ref l) [x] H1 fun _ H3 => tz D σ H3) w h hm fun v H3 G3 w3 e r => ?_⟩
  obtain ⟨_, o3, k2, vs3, rfl, k3⟩ := w3.w.getAt hc
  refine ⟨l, vs3, v, rfl, rfl, k2, by rw [k3.length]; exact sz_l hs, k _ _ (w3.writeAt hc ⟨vs3 ++ [v], rfl, pr_app k3 (.cons r .nil)⟩) e⟩
/-- append, the item made by an expression that changes cells: the last step -/
theorem c_app {j : Nat} {x : α} {v : V} {xs : List α} {Q : VK} (w : Wo G0 H0 ls G H cs) (hc : cs[j]? = some (l, cL R xs)) (hs : sz xs.length = true) (r : R.r G v x) (k : ∀ H2, Wo G0 H0 ls G H2 (cs.set j (l, cL R (xs ++ [x]))) → Q .non H2) : rAppend (.ref l) [v] H Q := by
  obtain ⟨_, o3, k2, vs3, rfl, k3⟩ := w.w.getAt hc
  exact ⟨l, vs3, v, rfl, rfl, k2, by rw [k3.length]; exact sz_l hs, k _ (w.writeAt hc ⟨vs3 ++ [v], rfl, pr_app k3 (.cons r .nil)⟩)⟩
theorem o_bm {rr : V → List V → Hp → VK → Prop} {i j : Nat} {xs : List α} {ta : TA} {Q : VK} (w : Wo G0 H0 ls G H cs) (hc : cs[j]? = some (l, cL R xs)) (hi : σ[i]? = some (some (.ref l))) (h : ta σ H fun vs H2 => rr (.ref l) vs H2 Q) : tBM K "list" rr (tVar i) ta σ H Q := by
  obtain ⟨_, o, h2, vs, rfl, h3⟩ := w.w.getAt hc
  exact ⟨.ref l, hi, .inl ⟨rfl, vs, Or.inl (Or.inl h2)⟩, h⟩
theorem o_bm0 {rr : V → List V → Hp → VK → Prop} {i j : Nat} {xs : List α} {Q : VK} (w : Wo G0 H0 ls G H cs) (hc : cs[j]? = some (l, cL R xs)) (hi : σ[i]? = some (some (.ref l))) (h : rr (.ref l) [] H Q) : tBM0 K "list" rr (tVar i) σ H Q := by
  obtain ⟨_, o, h2, vs, rfl, h3⟩ := w.w.getAt hc
  exact ⟨.ref l, hi, .inl ⟨rfl, vs, Or.inl (Or.inl h2)⟩, h⟩
/-- xs.pop(), xs.pop(i), insert, reverse, clear -/
def popM (xs : List α) : Option (α × List α) := xs[xs.length - 1]? >>= fun x => some (x, xs.dropLast)
def popAtM (xs : List α) (i : Int) : Option (α × List α) := if -(2 ^ 63) ≤ i ∧ i < 2 ^ 63 then (seqIndex? i xs.length >>= fun k => xs[k]? >>= fun x => some (x, xs.eraseIdx k)) else none
def insM (xs : List α) (i : Int) (x : α) : Option (List α) := if sz xs.length = true ∧ 0 ≤ i ∧ i < 2 ^ 63 then some (xs.take i.toNat ++ [x] ++ xs.drop i.toNat) else none
def appM (xs : List α) (x : α) : Option (List α) := bif sz xs.length then some (xs ++ [x]) else none
theorem appM_ok {xs ys : List α} {x : α} (h : appM xs x = some ys) : sz xs.length = true ∧ ys = xs ++ [x] := by
  unfold appM at h
  cases e : sz xs.length with
  | true => rw [e] at h; exact ⟨rfl, (Option.some.inj h).symm⟩
  | false => rw [e] at h; cases h
theorem pr_take {R : V → α → Prop} : ∀ (n : Nat) {vs : List V} {xs : List α}, Paired R vs xs → Paired R (vs.take n) (xs.take n)
  | 0, _, _, _ => .nil
  | n + 1, _, _, .nil => .nil
  | n + 1, _, _, .cons r t => .cons r (pr_take n t)
theorem pr_drop {R : V → α → Prop} : ∀ (n : Nat) {vs : List V} {xs : List α}, Paired R vs xs → Paired R (vs.drop n) (xs.drop n)
  | 0, _, _, h => h
  | n + 1, _, _, .nil => .nil
  | n + 1, _, _, .cons r t => pr_drop n t
theorem pr_erase {R : V → α → Prop} : ∀ (n : Nat) {vs : List V} {xs : List α}, Paired R vs xs → Paired R (vs.eraseIdx n) (xs.eraseIdx n)
  | _, _, _, .nil => .nil
  | 0, _, _, .cons r t => t
  | n + 1, _, _, .cons r t => .cons r (pr_erase n t)
theorem pr_set {R : V → α → Prop} {v : V} {x : α} (r0 : R v x) : ∀ (n : Nat) {vs : List V} {xs : List α}, Paired R vs xs → Paired R (vs.set n v) (xs.set n x)
  | _, _, _, .nil => .nil
  | 0, _, _, .cons r t => .cons r0 t
  | n + 1, _, _, .cons r t => .cons r (pr_set r0 n t)
theorem pr_dropLast {R : V → α → Prop} {vs : List V} {xs : List α} (h : Paired R vs xs) : Paired R vs.dropLast xs.dropLast := by
  rw [List.dropLast_eq_take, List.dropLast_eq_take, h.length]; exact pr_take _ h
theorem pr_rev {R : V → α → Prop} : ∀ {vs : List V} {xs : List α}, Paired R vs xs → Paired R vs.reverse xs.reverse
  | _, _, .nil => .nil
  | _, _, .cons r t => by rw [List.reverse_cons, List.reverse_cons]; exact pr_app (pr_rev t) (.cons r .nil)
theorem c_pop {j : Nat} {x : α} {xs ys : List α} {Q : VK} (w : Wo G0 H0 ls G H cs) (hc : cs[j]? = some (l, cL R xs)) (hm : popM xs = some (x, ys)) (k : ∀ v H2, Wo G0 H0 ls G H2 (cs.set j (l, cL R ys)) → R.r G v x → Q v H2) : rPop (.ref l) [] H Q := by
  obtain ⟨_, o3, k2, vs, rfl, k3⟩ := w.w.getAt hc
  obtain ⟨x', hx, e⟩ := bindS hm
  cases e
  obtain ⟨v, hv, r⟩ := pr_get k3 hx
  exact ⟨l, vs, v, rfl, rfl, k2, by rw [k3.length]; exact hv, k v _ (w.writeAt hc ⟨vs.dropLast, rfl, pr_dropLast k3⟩) r⟩
theorem c_popAt {j : Nat} {i : Int} {x : α} {xs ys : List α} {Q : VK} (w : Wo G0 H0 ls G H cs) (hc : cs[j]? = some (l, cL R xs)) (hm : popAtM xs i = some (x, ys)) (k : ∀ v H2, Wo G0 H0 ls G H2 (cs.set j (l, cL R ys)) → R.r G v x → Q v H2) : rPopAt (.ref l) [.int i] H Q := by
  obtain ⟨_, o3, k2, vs, rfl, k3⟩ := w.w.getAt hc
  unfold popAtM at hm
  split at hm
  · rename_i hb
    obtain ⟨n, hn, hm⟩ := bindS hm
    obtain ⟨x', hx, e⟩ := bindS hm
    cases e
    obtain ⟨v, hv, r⟩ := pr_get k3 hx
    exact ⟨l, vs, i, n, v, rfl, rfl, k2, hb.1, hb.2, by rw [k3.length]; exact hn, hv, k v _ (w.writeAt hc ⟨vs.eraseIdx n, rfl, pr_erase n k3⟩) r⟩
  · cases hm
abbrev rIns : V → List V → Hp → VK → Prop := fun x vs H Q => ∃ (l : Addr) (xs : List V) (i : Int) (y : V), x = .ref l ∧ vs = [.int i, y] ∧ H l = some (.lst xs) ∧ xs.length < sizeLine ∧ 0 ≤ i ∧ i < 2 ^ 63 ∧ Q .non (upd H l (.lst (xs.take i.toNat ++ [y] ++ xs.drop i.toNat)))
def rInsN : V → List V → Hp → VK → Prop := rIns
theorem c_ins {j : Nat} {i : Int} {x : α} {v : V} {xs ys : List α} {Q : VK} (w : Wo G0 H0 ls G H cs) (hc : cs[j]? = some (l, cL R xs)) (r : R.r G v x) (hm : insM xs i x = some ys) (k : ∀ H2, Wo G0 H0 ls G H2 (cs.set j (l, cL R ys)) → Q .non H2) : rInsN (.ref l) [.int i, v] H Q := by
  obtain ⟨_, o3, k2, vs, rfl, k3⟩ := w.w.getAt hc
  unfold insM at hm
  split at hm
  · rename_i hb
    cases hm
    exact ⟨l, vs, i, v, rfl, rfl, k2, by rw [k3.length]; exact sz_l hb.1, hb.2.1, hb.2.2, k _ (w.writeAt hc ⟨_, rfl, pr_app (pr_app (pr_take _ k3) (.cons r .nil)) (pr_drop _ k3)⟩)⟩
  · cases hm
theorem c_rev {j : Nat} {xs : List α} {Q : VK} (w : Wo G0 H0 ls G H cs) (hc : cs[j]? = some (l, cL R xs)) (k : ∀ H2, Wo G0 H0 ls G H2 (cs.set j (l, cL R xs.reverse)) → Q .non H2) : rReverse (.ref l) [] H Q := by
  obtain ⟨_, o3, k2, vs, rfl, k3⟩ := w.w.getAt hc
  exact ⟨l, vs, rfl, rfl, k2, k _ (w.writeAt hc ⟨_, rfl, pr_rev k3⟩)⟩
theorem c_clear {j : Nat} {xs : List α} {Q : VK} (w : Wo G0 H0 ls G H cs) (hc : cs[j]? = some (l, cL R xs)) (k : ∀ H2, Wo G0 H0 ls G H2 (cs.set j (l, cL R [])) → Q .non H2) : rClear (.ref l) [] H Q := by
  obtain ⟨_, o3, k2, vs, rfl, k3⟩ := w.w.getAt hc
  exact ⟨l, vs, rfl, rfl, k2, k _ (w.writeAt hc ⟨_, rfl, .nil⟩)⟩
theorem mt_insN {X : Cx} : MtR X "list.insert" rInsN := mt_insert
/-- xs[i] = e -/
def setM (xs : List α) (i : Int) (x : α) : Option (List α) := ixN xs.length i >>= fun j => some (xs.set j x)
theorem x_setIx {a j : Nat} {te ti : TE} {m : Option α} {mi : Option Int} {x : α} {i : Int} {xs ys : List α} (w : Wo G0 H0 ls G H cs) (hc : cs[j]? = some (l, cL R xs)) (hi : σ[a]? = some (some (.ref l))) (h : E te σ G H R m) (hm : m = some x)
    (h' : E ti σ G H rI mi) (hm' : mi = some i) (hy : setM xs i x = some ys) (k : ∀ H2 G2, Wo G0 H0 ls G2 H2 (cs.set j (l, cL R ys)) → Ex G G2 → tz D σ H2) : tSeq (tAsg te (gSub (tVar a) ti rSetL)) tz D σ H :=
  h x hm H w.ex (Ex.refl _) (fun x H1 => gSub (tVar a) ti rSetL x σ H1 (tz D)) fun v H3 G3 u r => by
    have w3 := w.up u
    refine ⟨.ref l, hi, (h'.mono u.gg u.hh) i hm' H3 w3.ex (Ex.refl _) _ fun v' H4 G4 u' r' => ?_⟩
    cases r'
    have w4 := w3.up u'
    obtain ⟨_, o3, k2, vs, rfl, k3⟩ := w4.w.getAt hc
    obtain ⟨n, hn, e⟩ := bindS hy
    cases e
    exact ⟨l, vs, i, n, rfl, rfl, k2, by rw [k3.length]; exact hn, k _ _ (w4.writeAt hc ⟨_, rfl, pr_set (R.mono u'.gg r) n k3⟩) (u.gg.trans u'.gg)⟩

/-! ### loops -/
theorem x_forL {xs : List α} {tl : TE} {m : Option (List α)} (w : Wo G0 H0 ls G H cs) (h : E tl σ G H (rL R) m) (hm : m = some xs) (P : Nat → Hp → Hp → L2.St → Prop) (hP : ∀ i G' H' σ', P i G' H' σ' → Ex G' H')
    (h0 : ∀ G' H', Wo G0 H0 ls G' H' cs → Ex G G' → P 0 G' H' σ)
    (hs : ∀ G1, Ex G G1 → ∀ i x v σ' G' H', xs[i]? = some x → Ex G1 G' → P i G' H' σ' → R.r G' v x → g v σ' H' fun σ2 H2 => tu { D with nx := fun σ' H' => ∃ G', Ex G1 G' ∧ P (i + 1) G' H' σ', ct := fun σ' H' => ∃ G', Ex G1 G' ∧ P (i + 1) G' H' σ', bk := tz D } σ2 H2)
    (hd : ∀ σ' G' H', Ex G G' → P xs.length G' H' σ' → tz D σ' H') : tSeq (tFor (iList K tl) g tu) tz D σ H :=
  h xs hm H w.ex (Ex.refl _) _ fun v H1 G1 u r => by
    obtain ⟨a, vs, rfl, h2, h3⟩ := r
    refine ⟨a, rfl, ⟨vs, Or.inl (Or.inl (u.gh a _ h2))⟩, for_list (K := K) (a := a) (xs := vs) (fun i σ' H' => ∃ G', Ex G1 G' ∧ P i G' H' σ') ⟨G1, Ex.refl _, h0 G1 H1 (w.up u) u.gg⟩ ?_ ?_ ?_⟩
    · rintro i σ' H' _ ⟨G', e, p⟩
      exact Or.inl (Or.inl (hP _ _ _ _ p a _ (e a _ h2)))
    · rintro i y σ' H' hy ⟨G', e, p⟩
      obtain ⟨x, hx, r⟩ := pr_get' h3 hy
      exact hs G1 u.gg i x y σ' G' H' hx e p (R.mono e r)
    · rintro σ' H' ⟨G', e, p⟩
      rw [h3.length] at p
      exact hd σ' G' H' (u.gg.trans e) p
theorem x_forR {ta : TA} {n : Int} {m : Option (Int × Unit)} {xs : List Int} (w : Wo G0 H0 ls G H cs) (h : EA ta σ G H (aC rI aN) m) (hm : m = some (n, ())) (hx : rngM 0 n = some xs) (P : Nat → Hp → Hp → L2.St → Prop)
    (h0 : ∀ G' H', Wo G0 H0 ls G' H' cs → Ex G G' → P 0 G' H' σ)
    (hs : ∀ i x σ' G' H', xs[i]? = some x → P i G' H' σ' → g (.int x) σ' H' fun σ2 H2 => tu { D with nx := fun σ' H' => ∃ G', P (i + 1) G' H' σ', ct := fun σ' H' => ∃ G', P (i + 1) G' H' σ', bk := tz D } σ2 H2)
    (hd : ∀ σ' G' H', P xs.length G' H' σ' → tz D σ' H') : tSeq (tFor (iRng1 ta) g tu) tz D σ H :=
  h _ hm H w.ex (Ex.refl _) _ fun v H1 G1 u r => by
    obtain ⟨v1, ws, rfl, e1, rfl⟩ := r
    cases e1
    unfold rngM at hx
    split at hx
    · rename_i hb
      cases hx
      refine ⟨n, rfl, by omega, by omega, for_range (lo := 0) (n := n.toNat) (fun i σ' H' => ∃ G', P i G' H' σ') ⟨G1, h0 G1 H1 (w.up u) u.gg⟩ ?_ ?_⟩
      · rintro i σ' H' hi ⟨G', p⟩
        exact hs i _ σ' G' H' (rng_get (by omega)) p
      · rintro σ' H' ⟨G', p⟩
        refine hd σ' G' H' ?_
        rw [rng_len]
        have : (n - 0).toNat = n.toNat := by omega
        rw [this]; exact p
    · cases hx
theorem x_forR2 {ta : TA} {lo n : Int} {m : Option (Int × Int × Unit)} {xs : List Int} (w : Wo G0 H0 ls G H cs) (h : EA ta σ G H (aC rI (aC rI aN)) m) (hm : m = some (lo, n, ())) (hx : rngM lo n = some xs) (P : Nat → Hp → Hp → L2.St → Prop)
    (h0 : ∀ G' H', Wo G0 H0 ls G' H' cs → Ex G G' → P 0 G' H' σ)
    (hs : ∀ i x σ' G' H', xs[i]? = some x → P i G' H' σ' → g (.int x) σ' H' fun σ2 H2 => tu { D with nx := fun σ' H' => ∃ G', P (i + 1) G' H' σ', ct := fun σ' H' => ∃ G', P (i + 1) G' H' σ', bk := tz D } σ2 H2)
    (hd : ∀ σ' G' H', P xs.length G' H' σ' → tz D σ' H') : tSeq (tFor (iRng2 ta) g tu) tz D σ H :=
  h _ hm H w.ex (Ex.refl _) _ fun v H1 G1 u r => by
    obtain ⟨v1, ws, rfl, e1, v2, ws2, rfl, e2, rfl⟩ := r
    cases e1
    cases e2
    unfold rngM at hx
    split at hx
    · rename_i hb
      cases hx
      refine ⟨lo, n, rfl, ⟨by omega, by omega, by omega, by omega⟩, for_range (lo := lo) (n := (n - lo).toNat) (fun i σ' H' => ∃ G', P i G' H' σ') ⟨G1, h0 G1 H1 (w.up u) u.gg⟩ ?_ ?_⟩
      · rintro i σ' H' hi ⟨G', p⟩
        exact hs i _ σ' G' H' (rng_get hi) p
      · rintro σ' H' ⟨G', p⟩
        refine hd σ' G' H' ?_
        rw [rng_len]
        exact p
    · cases hx
theorem g_name {j : Nat} {v : V} {Q : L2.St → Hp → Prop} (h : Q (σ.set j (some v)) H) : gName j v σ H Q := h
theorem g_pair {i j : Nat} {v : V} {p : α × β} {Q : L2.St → Hp → Prop} (r : (rP R S).r G v p) (e : Ex G H) (k : ∀ x y, R.r G x p.1 → S.r G y p.2 → Q ((σ.set i (some x)).set j (some y)) H) : gTup K 2 (gCons (gName i) (gCons (gName j) gNil)) v σ H Q := by
  obtain ⟨a, x, y, rfl, h2, h3, h4⟩ := r
  exact ⟨a, [x, y], rfl, Or.inl (Or.inl (e a _ h2)), rfl, x, [y], rfl, y, [], rfl, rfl, k x y h3 h4⟩
/-- while -/
theorem x_wh {ρ ς : Type} {c : ς → Option Bool} {body : ς → Option (Stp ς ρ)} {n : Nat} {s : ς} {r : ς ⊕ ρ} (hm : whL c body n s = some r) (P : ς → L2.St → Hp → Prop) (h0 : P s σ H)
    (ht : ∀ n s σ' H', P s σ' H' → whL c body n s = some r → ∃ b, c s = some b ∧ ∀ Q : Bool → Hp → Prop, (∀ H2, P s σ' H2 → Q b H2) → t σ' H' Q)
    (hs : ∀ n s σ' H', P s σ' H' → (body s >>= stpK (whL c body n)) = some r → tu { D with nx := fun σ2 H2 => ∃ s2, P s2 σ2 H2 ∧ whL c body n s2 = some r, ct := fun σ2 H2 => ∃ s2, P s2 σ2 H2 ∧ whL c body n s2 = some r, bk := tz D } σ' H')
    (hd : ∀ s σ' H', P s σ' H' → r = .inl s → tz D σ' H') : tSeq (tWhile t tu) tz D σ H := by
  refine ⟨fun n σ' H' => ∃ s, P s σ' H' ∧ whL c body n s = some r, ⟨n, s, h0, hm⟩, ?_⟩
  rintro n σ' H' ⟨s, p, hm⟩
  obtain ⟨b, hb, kb⟩ := ht n s σ' H' p hm
  refine kb _ fun H2 p2 => ?_
  cases n with
  | zero => cases hm
  | succ n =>
    have hm' : (c s >>= fun b => bif b then body s >>= stpK (whL c body n) else some (.inl s)) = some r := hm
    rw [hb] at hm'
    cases b with
    | true => exact ⟨_, fun σ2 H2 ⟨s2, q⟩ => ⟨n, Nat.lt_succ_self n, s2, q⟩, hs n s σ' H2 p2 hm'⟩
    | false => exact hd s σ' H2 p2 (Option.some.inj hm').symm
end
end Sim

namespace Sim
open PySem L2 Evl
section
variable {α β : Type}
/-- [f2 x for x in xs if f x] -/
def lcM (f : α → Option Bool) (f2 : α → Option β) : List α → Option (List β)
  | [] => some []
  | x :: xs => f x >>= fun b => bif b then f2 x >>= fun y => lcM f f2 xs >>= fun ys => some (y :: ys) else lcM f f2 xs
/-- [f2 x for x in xs] -/
def mapO (f2 : α → Option β) : List α → Option (List β)
  | [] => some []
  | x :: xs => f2 x >>= fun y => mapO f2 xs >>= fun ys => some (y :: ys)
def lcS (f : α → Option Bool) (f2 : α → Option β) (xs : List α) : Option (List β) := bif sz xs.length then lcM f f2 xs else none
def mapS (f2 : α → Option β) (xs : List α) : Option (List β) := bif sz xs.length then mapO f2 xs else none
theorem lcM_true (f2 : α → Option β) : ∀ xs, lcM (fun _ => some true) f2 xs = mapO f2 xs
  | [] => rfl
  | x :: xs => by
    show (f2 x >>= fun y => lcM (fun _ => some true) f2 xs >>= fun ys => some (y :: ys)) = _
    rw [lcM_true f2 xs]; rfl
theorem mapS_eq (f2 : α → Option β) : mapS f2 = lcS (fun _ => some true) f2 := by
  funext xs
  unfold mapS lcS
  rw [lcM_true]
theorem lcS_ok {f : α → Option Bool} {f2 : α → Option β} {xs : List α} {ys : List β} (h : lcS f f2 xs = some ys) : sz xs.length = true ∧ lcM f f2 xs = some ys := by
  unfold lcS at h
  cases e : sz xs.length with
  | true => rw [e] at h; exact ⟨rfl, h⟩
  | false => rw [e] at h; cases h
end
section
variable {K : PySem.W.Frag} {σ : L2.St} {G H W : Hp} {te tl : TE} {tt : TT} {α β γ : Type} {R : Rep α} {S : Rep β} {T : Rep γ}
/-- a turn's word: the list so far, what is left -/
def Lw (G0 H0 : Hp) (T : Rep γ) (f : α → Option Bool) (f2 : α → Option γ) (xs : List α) (zs : List γ) (D : Addr) (i : Nat) (H : Hp) : Prop :=
  ∃ G acc ys rest, H0 D = none ∧ Up G0 H0 G H ∧ G D = none ∧ H D = some (.lst acc) ∧ Paired (T.r G) acc ys ∧ lcM f f2 (xs.drop i) = some rest ∧ ys ++ rest = zs ∧ ys.length ≤ i
theorem lw_turn {G0 H0 H : Hp} {f : α → Option Bool} {f2 : α → Option γ} {xs : List α} {zs : List γ} {D : Addr} {i : Nat} {x : α} {σ2 : L2.St} (hx : xs[i]? = some x) (hs : sz xs.length = true) (p : Lw G0 H0 T f f2 xs zs D i H)
    (ht : ∀ G', Ex G0 G' → Ex H0 H → Ex G' H → ET tt σ2 H (f x)) (he : ∀ G' H', Ex G0 G' → Ex H0 H' → Ex H H' → Ex G' H' → E te σ2 G' H' T (f2 x)) :
    tt σ2 H fun b H3 => if b = true then te σ2 H3 fun y H4 => ∃ acc, H4 D = some (.lst acc) ∧ acc.length < sizeLine ∧ Lw G0 H0 T f f2 xs zs D (i + 1) (upd H4 D (.lst (acc ++ [y]))) else Lw G0 H0 T f f2 xs zs D (i + 1) H3 := by
  obtain ⟨G, acc, ys, rest, p1, p2, p3, p4, p5, p6, p7, p8⟩ := p
  rw [drop_at hx] at p6
  obtain ⟨b, hb, p6⟩ := bindS p6
  have hi : i < xs.length := (List.getElem?_eq_some_iff.mp hx).1
  refine ht G p2.gg p2.hh p2.gh b hb H (Ex.refl _) _ fun H3 e3 => ?_
  cases b with
  | false => exact ⟨G, acc, ys, rest, p1, p2.trans (Up.same p2.gh e3), p3, e3 _ _ p4, p5, p6, p7, Nat.le_succ_of_le p8⟩
  | true =>
    obtain ⟨y, hy, p6⟩ := bindS p6
    obtain ⟨r2, hr, p6⟩ := bindS p6
    cases p6
    show te σ2 H3 _
    refine he G H3 p2.gg (p2.hh.trans e3) e3 (p2.gh.trans e3) y hy H3 (p2.gh.trans e3) (Ex.refl _) _ fun v H4 G4 u r => ?_
    have q2 : Up G0 H0 G4 H4 := (p2.trans (Up.same p2.gh e3)).trans u
    have q3 : G4 D = none := u.nw D (by rw [e3 _ _ p4]; simp) p3
    have q4 := u.hh _ _ (e3 _ _ p4)
    refine ⟨acc, q4, by rw [p5.length]; exact sz_lt (by have := of_decide_eq_true hs; omega), G4, acc ++ [v], ys ++ [y], r2, p1, ⟨q2.gg, fun a o h => ?_, Ex.mut q2.hh p1, q2.nw⟩, q3, upd_same, pr_app (Paired.mapP p5 fun _ _ => T.mono u.gg) (.cons r .nil), hr, by rw [List.append_assoc]; exact p7, by rw [List.length_append]; exact Nat.succ_le_succ p8⟩
    rw [upd_ne (fun z => by subst z; rw [q3] at h; cases h)]
    exact q2.gh a o h
theorem lw_end {G0 H0 H : Hp} {f : α → Option Bool} {f2 : α → Option γ} {xs : List α} {zs : List γ} {D : Addr} (p : Lw G0 H0 T f f2 xs zs D xs.length H) : ∃ G, H0 D = none ∧ Up G0 H0 G H ∧ Wd G H [(D, cL T zs)] := by
  obtain ⟨G, acc, ys, rest, p1, p2, p3, p4, p5, p6, p7, p8⟩ := p
  rw [List.drop_length] at p6
  cases p6
  rw [List.append_nil] at p7
  subst p7
  exact ⟨G, p1, p2, p2.gh, fun c hc => by
    rw [List.mem_singleton.mp hc]; exact ⟨p3, _, p4, acc, rfl, p5⟩, List.nodup_cons.mpr ⟨List.not_mem_nil, List.nodup_nil⟩⟩
theorem lw_start {G0 H0 : Hp} {f : α → Option Bool} {f2 : α → Option γ} {xs : List α} {zs : List γ} {D : Addr} (e : Ex G0 H0) (hD : H0 D = none) (h : lcM f f2 xs = some zs) : Lw G0 H0 T f f2 xs zs D 0 (upd H0 D (.lst [])) :=
  ⟨G0, [], [], zs, hD, up_new e hD, fresh_back e hD, upd_same, .nil, h, rfl, Nat.le_refl _⟩
theorem el_lcL {vs : List Nat} {j : Nat} {m : Option (List α)} {f : α → Option Bool} {f2 : α → Option γ} (h : E tl σ G W (rL R) m) (hw : ∀ x, wipe ((wipe σ vs).set j (some x)) vs = wipe σ vs)
    (ht : ∀ x v G' W', Ex G G' → Ex W W' → Ex G' W' → R.r G' v x → ET tt ((wipe σ vs).set j (some v)) W' (f x))
    (he : ∀ x v G' W', Ex G G' → Ex W W' → Ex G' W' → R.r G' v x → E te ((wipe σ vs).set j (some v)) G' W' T (f2 x)) :
    EL (tLc (iList K tl) (gName j) tt te vs) σ G W T (m >>= fun xs => lcS f f2 xs) := fun zs hz H e e' Q q => by
  obtain ⟨xs, hx, hz⟩ := bindS hz
  obtain ⟨hs, hz⟩ := lcS_ok hz
  refine h xs hx H e e' _ fun v H1 G1 u r => ?_
  obtain ⟨a, us, rfl, h2, h3⟩ := r
  refine ⟨a, rfl, ⟨us, Or.inl (Or.inl (u.gh a _ h2))⟩, fun D hD => lc_list (xs := us) (Lw G1 H1 T f f2 xs zs D) (lw_start u.gh hD hz) (fun i H' _ p => ?_) (fun i y H' hy p => ?_) fun H' p => ?_⟩
  · obtain ⟨G', _, _, _, _, p2, _⟩ := p
    exact Or.inl (Or.inl (p2.gh a _ (p2.gg a _ h2)))
  · obtain ⟨x, hx', r⟩ := pr_get' h3 hy
    exact ⟨hw y, lw_turn hx' hs p (fun G' e1 e2 e3 => ht x y G' H' (u.gg.trans e1) ((e'.trans u.hh).trans e2) e3 (R.mono e1 r)) fun G' H2 e1 e2 _ e3 => he x y G' H2 (u.gg.trans e1) ((e'.trans u.hh).trans e2) e3 (R.mono e1 r)⟩
  · rw [h3.length] at p
    obtain ⟨G', k1, k2, k3⟩ := lw_end p
    exact q D H' G' (fresh_back u.hh k1) (u.trans k2) k3
theorem el_lcR {ta : TA} {vs : List Nat} {j : Nat} {m : Option (Int × Unit)} {f : Int → Option Bool} {f2 : Int → Option γ} (h : EA ta σ G W (aC rI aN) m) (hw : ∀ x, wipe ((wipe σ vs).set j (some x)) vs = wipe σ vs)
    (ht : ∀ x G' W', Ex G G' → Ex W W' → Ex G' W' → ET tt ((wipe σ vs).set j (some (.int x))) W' (f x))
    (he : ∀ x G' W', Ex G G' → Ex W W' → Ex G' W' → E te ((wipe σ vs).set j (some (.int x))) G' W' T (f2 x)) :
    EL (tLc (iRng1 ta) (gName j) tt te vs) σ G W T (m >>= fun n => rngM 0 n.1 >>= fun xs => lcS f f2 xs) := fun zs hz H e e' Q q => by
  obtain ⟨n, hn, hz⟩ := bindS hz
  obtain ⟨xs, hx, hz⟩ := bindS hz
  obtain ⟨hs, hz⟩ := lcS_ok hz
  refine h n hn H e e' _ fun v H1 G1 u r => ?_
  obtain ⟨v1, ws, rfl, e1, rfl⟩ := r
  cases e1
  unfold rngM at hx
  split at hx
  · rename_i hb
    cases hx
    have hl : (rng 0 n.1).length = n.1.toNat := by rw [rng_len]; omega
    refine ⟨n.1, rfl, by omega, by omega, fun D hD => lc_range (lo := 0) (n := n.1.toNat) (Lw G1 H1 T f f2 (rng 0 n.1) zs D) (lw_start u.gh hD hz) (fun i H' hi p => ?_) fun H' p => ?_⟩
    · have hx' : (rng 0 n.1)[i]? = some (0 + (i : Int)) := rng_get (by omega)
      exact ⟨hw _, lw_turn hx' hs p (fun G' e1 e2 e3 => ht _ G' H' (u.gg.trans e1) ((e'.trans u.hh).trans e2) e3) fun G' H2 e1 e2 _ e3 => he _ G' H2 (u.gg.trans e1) ((e'.trans u.hh).trans e2) e3⟩
    · rw [← hl] at p
      obtain ⟨G', k1, k2, k3⟩ := lw_end p
      exact q D H' G' (fresh_back u.hh k1) (u.trans k2) k3
  · cases hx
/-- the target a pair of names -/
theorem el_lcP {vs : List Nat} {i j : Nat} {m : Option (List (α × β))} {f : α × β → Option Bool} {f2 : α × β → Option γ} (h : E tl σ G W (rL (rP R S)) m) (hw : ∀ x y, wipe (((wipe σ vs).set i (some x)).set j (some y)) vs = wipe σ vs)
    (ht : ∀ p v w G' W', Ex G G' → Ex W W' → Ex G' W' → R.r G' v p.1 → S.r G' w p.2 → ET tt (((wipe σ vs).set i (some v)).set j (some w)) W' (f p))
    (he : ∀ p v w G' W', Ex G G' → Ex W W' → Ex G' W' → R.r G' v p.1 → S.r G' w p.2 → E te (((wipe σ vs).set i (some v)).set j (some w)) G' W' T (f2 p)) :
    EL (tLc (iList K tl) (gTup K 2 (gCons (gName i) (gCons (gName j) gNil))) tt te vs) σ G W T (m >>= fun xs => lcS f f2 xs) := fun zs hz H e e' Q q => by
  obtain ⟨xs, hx, hz⟩ := bindS hz
  obtain ⟨hs, hz⟩ := lcS_ok hz
  refine h xs hx H e e' _ fun v H1 G1 u r => ?_
  obtain ⟨a, us, rfl, h2, h3⟩ := r
  refine ⟨a, rfl, ⟨us, Or.inl (Or.inl (u.gh a _ h2))⟩, fun D hD => lc_list (xs := us) (Lw G1 H1 T f f2 xs zs D) (lw_start u.gh hD hz) (fun i H' _ p => ?_) (fun k y H' hy p => ?_) fun H' p => ?_⟩
  · obtain ⟨G', _, _, _, _, p2, _⟩ := p
    exact Or.inl (Or.inl (p2.gh a _ (p2.gg a _ h2)))
  · obtain ⟨x, hx', b, v, w, rfl, k2, k3, k4⟩ := pr_get' h3 hy
    have k5 : H' b = some (.tup [v, w]) := by
      obtain ⟨G', _, _, _, _, p2, _⟩ := p
      exact p2.gh b _ (p2.gg b _ k2)
    refine ⟨b, [v, w], rfl, Or.inl (Or.inl k5), rfl, v, [w], rfl, w, [], rfl, rfl, hw v w, ?_⟩
    exact lw_turn hx' hs p (fun G' e1 e2 e3 => ht x v w G' H' (u.gg.trans e1) ((e'.trans u.hh).trans e2) e3 (R.mono e1 k3) (S.mono e1 k4)) fun G' H2 e1 e2 _ e3 => he x v w G' H2 (u.gg.trans e1) ((e'.trans u.hh).trans e2) e3 (R.mono e1 k3) (S.mono e1 k4)
  · rw [h3.length] at p
    obtain ⟨G', k1, k2, k3⟩ := lw_end p
    exact q D H' G' (fresh_back u.hh k1) (u.trans k2) k3
theorem et_yes : ET tYes σ W (some true) := fun b hb H _ Q q => by
  cases hb
  exact q H (Ex.refl _)
/-- no test: mapS -/
theorem el_map {m : Option (List α)} {f2 : α → Option γ} {te : TE} (h : EL te σ G W T (m >>= fun xs => lcS (fun _ => some true) f2 xs)) : EL te σ G W T (m >>= fun xs => mapS f2 xs) := by rw [mapS_eq]; exact h
theorem el_mapR {m : Option (Int × Unit)} {f2 : Int → Option γ} {te : TE} (h : EL te σ G W T (m >>= fun n => rngM 0 n.1 >>= fun xs => lcS (fun _ => some true) f2 xs)) : EL te σ G W T (m >>= fun n => rngM 0 n.1 >>= fun xs => mapS f2 xs) := by rw [mapS_eq]; exact h
end
end Sim

namespace Sim
open PySem L2 Evl
section
variable {K : PySem.W.Frag} {σ : L2.St} {G0 H0 G H G2 H2 W : Hp} {ls : List Addr} {cs : Cs} {l : Addr} {cp cp' : CP} {ta tb te tc : TE} {t u : TT} {α β γ ι κ : Type} {R : Rep α} {S : Rep β} {T : Rep γ} {A : AR ι} {D : Ends} {tu tv tz : TS} {g : TG}
theorem E.is {m : Option α} {x : α} (h : E te σ G W R m) (hm : m = some x) : E te σ G W R (some x) := by rw [← hm]; exact h
theorem ET.is {m : Option Bool} {x : Bool} (h : ET t σ W m) (hm : m = some x) : ET t σ W (some x) := by rw [← hm]; exact h
theorem EL.is {m : Option (List α)} {x : List α} (h : EL te σ G W R m) (hm : m = some x) : EL te σ G W R (some x) := by rw [← hm]; exact h
theorem e_andP {a b : Bool} (h1 : E ta σ G W rB (some a)) (h2 : E tb σ G W rB (some b)) : E (tAndV ta tb) σ G W rB (some (a && b)) := by
  have h := e_andV h1 h2
  cases a <;> exact h
theorem e_orP {a b : Bool} (h1 : E ta σ G W rB (some a)) (h2 : E tb σ G W rB (some b)) : E (tOrV ta tb) σ G W rB (some (a || b)) := by
  have h := e_orV h1 h2
  cases a <;> exact h
theorem et_andP {a b : Bool} (h1 : ET t σ W (some a)) (h2 : ET u σ W (some b)) : ET (tAnd t u) σ W (some (a && b)) := by
  have h := et_and h1 h2
  cases a <;> exact h
theorem et_orP {a b : Bool} (h1 : ET t σ W (some a)) (h2 : ET u σ W (some b)) : ET (tOr t u) σ W (some (a || b)) := by
  have h := et_or h1 h2
  cases a <;> exact h
/-- an option's value where it is one -/
theorem e_some {m : Option α} (h : E te σ G W R m) : E te σ G W (rO R) (m >>= fun x => some (some x)) := fun z hz H e e' Q q => by
  obtain ⟨x, hx, hz⟩ := bindS hz
  cases hz
  exact h x hx H e e' Q q
theorem e_none : E (tC .non) σ G W (rO R) (some none) := e_c rfl
theorem e_get {m : Option (Option α)} (h : E te σ G W (rO R) m) : E te σ G W R (m >>= fun x => x) := fun z hz H e e' Q q => by
  obtain ⟨x, hx, hz⟩ := bindS hz
  subst hz
  exact h _ hx H e e' Q q
/-- items of one kind -/
def EAL (n : Nat) (ta : TA) (σ : L2.St) (G W : Hp) (R : Rep α) (m : Option (List α)) : Prop :=
  ∀ xs, m = some xs → xs.length = n ∧ ∀ H, Ex G H → Ex W H → ∀ Q : List V → Hp → Prop, (∀ vs H2 G2, Up G H G2 H2 → Paired (R.r G2) vs xs → Q vs H2) → ta σ H Q
theorem EAL.mono {n : Nat} {G' W' : Hp} {ta : TA} {m : Option (List α)} (e : Ex G G') (e' : Ex W W') (h : EAL n ta σ G W R m) : EAL n ta σ G' W' R m := fun x hx => ⟨(h x hx).1, fun H e1 e2 Q q =>
  (h x hx).2 H (e.trans e1) (e'.trans e2) Q fun v H2 G2 up r => by
    obtain ⟨G3, u3, e3⟩ := up.lift e e1
    exact q v H2 G3 u3 (Paired.mapP r fun _ _ => R.mono e3)⟩
theorem eal_nil : EAL 0 tNil σ G W R (some []) := fun x hx => by
  cases hx
  exact ⟨rfl, fun H e e' Q q => q [] H G (Up.refl e) .nil⟩
theorem eal_cons {n : Nat} {tr : TA} {ma : Option α} {mr : Option (List α)} (h : E ta σ G W R ma) (hr : EAL n tr σ G W R mr) : EAL (n + 1) (tCons ta tr) σ G W R (ma >>= fun x => mr >>= fun xs => some (x :: xs)) := fun z hz => by
  obtain ⟨x, hx, hz⟩ := bindS hz
  obtain ⟨xs, hxs, hz⟩ := bindS hz
  cases hz
  refine ⟨congrArg (· + 1) (hr xs hxs).1, fun H e e' Q q => ?_⟩
  refine h x hx H e e' _ fun v H1 G1 u1 r1 => ?_
  refine ((hr.mono u1.gg (e'.trans u1.hh)) xs hxs).2 H1 u1.gh (Ex.refl _) _ fun vs H2 G2 u2 r2 => ?_
  exact q (v :: vs) H2 G2 (u1.trans u2) (.cons (R.mono u2.gg r1) r2)
theorem el_disp {n : Nat} {ta : TA} {m : Option (List α)} (h : EAL n ta σ G W R m) (hn : n < 100000 := by decide) : EL (tLst ta) σ G W R m := fun z hz H e e' Q q => by
  refine (h z hz).2 H e e' _ fun vs H1 G1 u1 r1 => ?_
  refine ⟨sz_of (by rw [r1.length, (h z hz).1]; exact Nat.le_of_lt hn), fun p hp => q p _ G1 (fresh_back u1.hh hp) (u1.trans (up_new u1.gh hp)) (wd_new u1.gh hp r1)⟩
theorem e_tupH {n : Nat} {ta : TA} {m : Option (List α)} (h : EAL n ta σ G W R m) (hn : n < 100000 := by decide) : E (tTup ta) σ G W (rT R) m := fun z hz H e e' Q q => by
  refine (h z hz).2 H e e' _ fun vs H1 G1 u1 r1 => ?_
  refine ⟨sz_of (by rw [r1.length, (h z hz).1]; exact Nat.le_of_lt hn), fun p hp => q _ _ _ (u1.trans (Up.lay u1.gh hp)) ⟨p, vs, rfl, upd_same, Paired.mapP r1 fun _ _ => R.mono (Ex.new (fresh_back u1.gh hp))⟩⟩
/-! ### cuts, tests opened -/
theorem o_cut (M : L2.St → Hp → Prop) (h : tSeq tu (fun _ => M) D σ H) (k : ∀ σ' H', M σ' H' → tz D σ' H') : Evl.tCut tu tz D σ H := ⟨M, h, k⟩
theorem o_if (h : t σ H fun b H1 => if b = true then tu { D with nx := tz D } σ H1 else tv { D with nx := tz D } σ H1) : tSeq (tIfS t tu tv) tz D σ H := h
theorem ite_b {b : Bool} {A B : Prop} (h1 : b = true → A) (h2 : b = false → B) : if b = true then A else B := by
  cases b with
  | true => exact h1 rfl
  | false => exact h2 rfl
theorem c_pf {f : ι → Option γ} {vs : List V} {i : ι} {z : γ} {Q : VK} {X : XK} (w : Wo G0 H0 ls G H cs) (hv : A.r G vs i) (hz : f i = some z)
    (k : ∀ u H2 G2, Wo G0 H0 ls G2 H2 cs → Ex G G2 → T.r G2 u z → Q u H2) : PF A T f vs H Q X := ⟨G, i, z, w.ex, hv, hz, fun u H2 G2 up r => k u H2 G2 (w.up up) up.gg r⟩
theorem c_pl {f : ι → Option (List γ)} {vs : List V} {i : ι} {z : List γ} {Q : VK} {X : XK} (w : Wo G0 H0 ls G H cs) (hv : A.r G vs i) (hz : f i = some z)
    (k : ∀ p H2 G2, H0 p = none → Wo G0 H0 ls G2 H2 ((p, cL T z) :: cs) → Ex G G2 → Q (.ref p) H2) : PL A T f vs H Q X := ⟨G, i, z, w.ex, hv, hz, fun p H2 G2 hp up w2 => k p H2 G2 (by
    cases q : H0 p with
    | none => rfl
    | some o => exact absurd hp (w.f.st p (by rw [q]; simp))) (w.newL hp up w2) up.gg⟩
theorem o_forR {ta : TA} (h : ta σ H fun vs H1 => ∃ j : Int, vs = [.int j] ∧ -(2 ^ 62) ≤ j ∧ j < 2 ^ 62 ∧ (fun (J : It) (H1 : Hp) => ∃ W : Nat → Nat → L2.St → Hp → Prop, (∃ m, W 0 m σ H1) ∧ ∀ i m σ H, W i m σ H →
      (J.stop i H ∧ tz D σ H) ∨ (J.go i H ∧ ∃ N : L2.St → Hp → Prop, (∀ σ' H', N σ' H' → ∃ m', m' < m ∧ W (i + 1) m' σ' H') ∧ ∀ x H', J.yld i H x H' → g x σ H' fun σ2 H2 => tu { D with nx := N, ct := N, bk := tz D } σ2 H2)) (Itr 0 j.toNat) H1) : tSeq (tFor (iRng1 ta) g tu) tz D σ H := h
/-- for i in range(n), n reckoned -/
theorem v_forR {n : Int} {xs : List Int} (w : Wo G0 H0 ls G H cs) (hx : rngM 0 n = some xs) (P : Nat → Hp → Hp → L2.St → Prop)
    (h0 : P 0 G H σ)
    (hs : ∀ i x σ' G' H', xs[i]? = some x → P i G' H' σ' → g (.int x) σ' H' fun σ2 H2 => tu { D with nx := fun σ' H' => ∃ G', P (i + 1) G' H' σ', ct := fun σ' H' => ∃ G', P (i + 1) G' H' σ', bk := tz D } σ2 H2)
    (hd : ∀ σ' G' H', P xs.length G' H' σ' → tz D σ' H') : ∃ j : Int, [V.int n] = [.int j] ∧ -(2 ^ 62) ≤ j ∧ j < 2 ^ 62 ∧ (fun (J : It) (H1 : Hp) => ∃ W : Nat → Nat → L2.St → Hp → Prop, (∃ m, W 0 m σ H1) ∧ ∀ i m σ H, W i m σ H →
      (J.stop i H ∧ tz D σ H) ∨ (J.go i H ∧ ∃ N : L2.St → Hp → Prop, (∀ σ' H', N σ' H' → ∃ m', m' < m ∧ W (i + 1) m' σ' H') ∧ ∀ x H', J.yld i H x H' → g x σ H' fun σ2 H2 => tu { D with nx := N, ct := N, bk := tz D } σ2 H2)) (Itr 0 j.toNat) H := by
  unfold rngM at hx
  split at hx
  · rename_i hb
    cases hx
    refine ⟨n, rfl, by omega, by omega, for_range (lo := 0) (n := n.toNat) (D := { D with nx := tz D }) (fun i σ' H' => ∃ G', P i G' H' σ') ⟨G, h0⟩ ?_ ?_⟩
    · rintro i σ' H' hi ⟨G', p⟩
      exact hs i _ σ' G' H' (rng_get (by omega)) p
    · rintro σ' H' ⟨G', p⟩
      refine hd σ' G' H' ?_
      rw [rng_len]
      have : (n - 0).toNat = n.toNat := by omega
      rw [this]; exact p
  · cases hx
end
end Sim

namespace Sim
open PySem L2 Evl
section
variable {K : PySem.W.Frag} {σ : L2.St} {G0 H0 G H G2 H2 W : Hp} {ls : List Addr} {cs : Cs} {l : Addr} {cp cp' : CP} {ta tb te tc : TE} {t u : TT} {α β γ ι κ : Type} {R : Rep α} {S : Rep β} {T : Rep γ} {A : AR ι} {D : Ends} {tu tv tz : TS} {g : TG}
theorem scO (h : R.Sc) : (rO R).Sc := fun {H H' v x} q => by
  cases x with
  | none => exact q
  | some y => exact h q
theorem cl_sc {xs : List α} (h : R.Sc) {o : HO} (q : (cL R xs).p G o) : (cL R xs).p G2 o := by
  obtain ⟨vs, e, p⟩ := q
  exact ⟨vs, e, Paired.mapP p fun _ _ r => h r⟩
theorem EL.s {m : Option (List α)} (sc : R.Sc) (h : EL te σ W W R m) : EL te σ G W R m := fun xs hx H e e' Q q => h xs hx H e' e' Q fun p H2 G2 hp u w => by
  obtain ⟨h1, o, h2, h3⟩ := w.head
  exact q p H2 G hp (Up.same e u.hh) ⟨e.trans u.hh, fun c hc => by
    rw [List.mem_singleton.mp hc]
    exact ⟨fresh_back e hp, o, h2, cl_sc sc h3⟩, List.nodup_cons.mpr ⟨List.not_mem_nil, List.nodup_nil⟩⟩
theorem e_neg {m : Option Int} (h : E te σ G W rI m) : E (tUn (L2.rU fun i => .int (-i)) te) σ G W rI (m >>= fun x => some (-x)) := fun z hz H e e' Q q => by
  obtain ⟨x, hx, hz⟩ := bindS hz
  cases hz
  exact h x hx H e e' _ fun v H1 G1 u r => ⟨x, r, q _ H1 G1 u rfl⟩
/-- the cells in another order -/
theorem Wo.perm (w : Wo G0 H0 ls G H cs) (p : List Nat) (hp : p.Nodup) (hl : ∀ i ∈ p, i < cs.length) : Wo G0 H0 ls G H (p.filterMap fun i => cs[i]?) := by
  have hm : ∀ c ∈ p.filterMap (fun i => cs[i]?), c ∈ cs := fun c hc => by
    obtain ⟨i, _, e⟩ := List.mem_filterMap.mp hc
    exact List.mem_of_getElem? e
  refine ⟨⟨w.ex, fun c hc => w.w.at_ c (hm c hc), ?_⟩, w.f, fun c hc => w.lo c (hm c hc)⟩
  clear hm
  induction p with
  | nil => exact List.nodup_nil
  | cons i p ih =>
    have hi : i < cs.length := hl i (List.mem_cons_self ..)
    rw [List.filterMap_cons, List.getElem?_eq_getElem hi]
    refine List.nodup_cons.mpr ⟨fun h => ?_, ih (List.nodup_cons.mp hp).2 fun j hj => hl j (List.mem_cons_of_mem _ hj)⟩
    obtain ⟨c, hc, e⟩ := List.mem_map.mp h
    obtain ⟨j, hj, ej⟩ := List.mem_filterMap.mp hc
    have h1 : (cs.map (·.1))[i]? = some cs[i].1 := by rw [List.getElem?_map, List.getElem?_eq_getElem hi]; rfl
    have h2 : (cs.map (·.1))[j]? = some cs[i].1 := by rw [List.getElem?_map, ej]; exact congrArg some e
    have := nodup_ix w.w.nd h1 h2
    subst this
    exact (List.nodup_cons.mp hp).1 hj
theorem Wo.sub2 {i j : Nat} {l' : Addr} (w : Wo G0 H0 ls G H cs) (h : cs[i]? = some (l, cp)) (h' : cs[j]? = some (l', cp')) (ne : i ≠ j) : Wd G H [(l, cp), (l', cp')] := ⟨w.ex, fun c hc => by
  rcases List.mem_cons.mp hc with hc | hc
  · subst hc; exact w.w.at_ _ (List.mem_of_getElem? h)
  · rw [List.mem_singleton.mp hc]; exact w.w.at_ _ (List.mem_of_getElem? h'), by
  refine List.nodup_cons.mpr ⟨fun z => ?_, List.nodup_cons.mpr ⟨List.not_mem_nil, List.nodup_nil⟩⟩
  have e : l = l' := List.mem_singleton.mp z
  have h1 : (cs.map (·.1))[i]? = some l := by rw [List.getElem?_map, h]; rfl
  have h2 : (cs.map (·.1))[j]? = some l := by rw [List.getElem?_map, h', e]; rfl
  exact ne (nodup_ix w.w.nd h1 h2)⟩
theorem x_forT {xs : List α} {tl : TE} {m : Option (List α)} (w : Wo G0 H0 ls G H cs) (h : E tl σ G H (rT R) m) (hm : m = some xs) (P : Nat → Hp → Hp → L2.St → Prop) (hP : ∀ i G' H' σ', P i G' H' σ' → Ex G' H')
    (h0 : ∀ G' H', Wo G0 H0 ls G' H' cs → Ex G G' → P 0 G' H' σ)
    (hs : ∀ G1, Ex G G1 → ∀ i x v σ' G' H', xs[i]? = some x → Ex G1 G' → P i G' H' σ' → R.r G' v x → g v σ' H' fun σ2 H2 => tu { D with nx := fun σ' H' => ∃ G', Ex G1 G' ∧ P (i + 1) G' H' σ', ct := fun σ' H' => ∃ G', Ex G1 G' ∧ P (i + 1) G' H' σ', bk := tz D } σ2 H2)
    (hd : ∀ σ' G' H', Ex G G' → P xs.length G' H' σ' → tz D σ' H') : tSeq (tFor (iTup K tl) g tu) tz D σ H :=
  h xs hm H w.ex (Ex.refl _) _ fun v H1 G1 u r => by
    obtain ⟨a, vs, rfl, h2, h3⟩ := r
    refine ⟨a, rfl, ⟨vs, Or.inl (Or.inl (u.gh a _ h2))⟩, for_tup (K := K) (a := a) (xs := vs) (fun i σ' H' => ∃ G', Ex G1 G' ∧ P i G' H' σ') ⟨G1, Ex.refl _, h0 G1 H1 (w.up u) u.gg⟩ ?_ ?_ ?_⟩
    · rintro i σ' H' _ ⟨G', e, p⟩
      exact Or.inl (Or.inl (hP _ _ _ _ p a _ (e a _ h2)))
    · rintro i y σ' H' hy ⟨G', e, p⟩
      obtain ⟨x, hx, r⟩ := pr_get' h3 hy
      exact hs G1 u.gg i x y σ' G' H' hx e p (R.mono e r)
    · rintro σ' H' ⟨G', e, p⟩
      rw [h3.length] at p
      exact hd σ' G' H' (u.gg.trans e) p
end
/-! ### the text's facts -/
structure Tx (fa : List He.Fa) (fn : List He.DefD) (K : PySem.W.Frag) (mg : Str → Option Value) : Prop where
  ex : ∃ h : Heap, K.In h ∧ h.Ns mainGlobals mg
  c : He.SaysD fa fn K
section
variable {fa : List He.Fa} {fn : List He.DefD} {K : PySem.W.Frag} {mg : Str → Option Value} {P : Program} {w : World} {base : Heap}
theorem Tx.glo (T : Tx fa fn K mg) (i : Nat) {x : Str} (h : fa[i]? = some (.glo x)) : mg x = some (.ref (He.ga K x)) := by
  obtain ⟨h', X, G⟩ := T.ex
  exact He.glo_ok X G (T.c.fact i h)
theorem Tx.free (T : Tx fa fn K mg) (i : Nat) {x : Str} (h : fa[i]? = some (.free x)) : mg x = none := by
  obtain ⟨h', X, G⟩ := T.ex
  exact He.free_ok X G (T.c.fact i h)
theorem Tx.cls (T : Tx fa fn K mg) (i : Nat) {x : Str} (h : fa[i]? = some (.cls x)) : Cls K (He.ga K x) := He.cls_ok (T.c.fact i h)
theorem Tx.noat (T : Tx fa fn K mg) (i : Nat) {x f : Str} (h : fa[i]? = some (.noat x f)) : NoAttr K (He.ga K x) f := He.noat_ok (T.c.fact i h)
theorem Tx.meth (T : Tx fa fn K mg) (i : Nat) {x m : Str} (h : fa[i]? = some (.meth x m)) : Meth K (He.ga K x) m (He.ma K (He.ga K x) m) := He.meth_ok (T.c.fact i h)
theorem Tx.mkr (T : Tx fa fn K mg) (i : Nat) {x : Str} (h : fa[i]? = some (.mkr x)) : Mk K (He.ga K x) (He.ma K (He.ga K x) "__init__") := He.mkr_ok (T.c.fact i h)
theorem Tx.def_ (T : Tx fa fn K mg) (i : Nat) {d : He.DefD} (h : fn[i]? = some d) : ∃ fd, FunD K d.name d.qual d.params d.body d.scope (d.dvs K) (d.kws K) (He.fAd K d.at_) fd := T.c.def_ i h
/-- a def by its name, with its promise -/
def Fk (P : Program) (w : World) (K : PySem.W.Frag) (mg : Str → Option Value) (base : Heap) (CX : CXT) (k : Nat) (x : Str) (ps : List Str) (sp : Sp) : Prop :=
  ∃ fd, FnOk P w K mg base CX k (He.ga K x) fd ps sp ∧ Binds K fd ps [] ∧ PySem.W.keepIn K (.ref (He.ga K x)) = true ∧ mg x = some (.ref (He.ga K x))
theorem fk_mk {CX : CXT} {k : Nat} {x qual : Str} {ps : List Str} {sp : Sp} {fd : FuncData} {params : Arguments} {body : List Stmt} {scope : Scope} (T : Tx fa fn K mg) (g : mg x = some (.ref (He.ga K x))) (F : FunD K x qual params body scope [] [] (He.ga K x) fd)
    (hb : ∀ (kV doc pm : Value) (an : Option Addr) (cdv ct : Value) (us : List Value), us.length = ps.length → bindArgs (PySem.W.fnOf x qual params body scope .none kV doc pm an cdv ct) ⟨us, []⟩ = pure (ps.zip us))
    (h : FnOk P w K mg base CX k (He.ga K x) fd ps sp) : Fk P w K mg base CX k x ps sp := ⟨fd, h, F.bindsN hb, F.kp, g⟩
end
end Sim

namespace Sim
open PySem L2 Evl
/-! ### the hook: facts, defs, and further Bools -/
abbrev AlE : Type := He.AlD × Bool
def obsE (fa : List He.Fa) (fn : List He.DefD) (ex : List (PySem.W.Frag → Bool)) (K : PySem.W.Frag) : AlE := (He.obsD fa fn K, ex.all fun e => e K)
def obsEG (n : Nat) (fa : List He.Fa) (fn : List He.DefD) (ex : List (PySem.W.Frag → Bool)) (g : Addr → Option Obj) : AlE := obsE fa fn ex (He.frG g (He.asD g n))
structure SaysE (fa : List He.Fa) (fn : List He.DefD) (ex : List (PySem.W.Frag → Bool)) (K : PySem.W.Frag) : Prop where
  d : He.SaysD fa fn K
  x : (ex.all fun e => e K) = true
def hookE (n : Nat) (fa : List He.Fa) (fn : List He.DefD) (ex : List (PySem.W.Frag → Bool)) : PySem.W.Hook where
  α := AlE
  obs := fun s => obsEG n fa fn ex s.heap.get?
  val := fun _ => (He.valD fn, true)
  says := fun _ h => ∃ K : PySem.W.Frag, K.In h ∧ SaysE fa fn ex K
  of := fun _ _ e => ⟨_, He.frG_in, congrArg (fun z : AlE => z.1) e, congrArg (fun z : AlE => z.2) e⟩
  keeps := fun _ _ _ ⟨K, hK, c⟩ k => ⟨K, PySem.W.Frag.In.keeps hK k, c⟩
theorem obsEG_eq {n : Nat} {fa : List He.Fa} {fn : List He.DefD} {ex : List (PySem.W.Frag → Bool)} {g : Addr → Option Obj} {s : Shared} (h : ∀ a, g a = s.heap.get? a) : obsEG n fa fn ex g = (hookE n fa fn ex).obs s := by
  have e : g = s.heap.get? := funext h
  rw [e] <;> rfl
structure TxE (fa : List He.Fa) (fn : List He.DefD) (es : List (PySem.W.Frag → Bool)) (K : PySem.W.Frag) (mg : Str → Option Value) : Prop extends Tx fa fn K mg where
  x : (es.all fun e => e K) = true
theorem TxE.mo {fa : List He.Fa} {fn : List He.DefD} {ex : List (PySem.W.Frag → Bool)} {K : PySem.W.Frag} {mg : Str → Option Value} (T : TxE fa fn ex K mg) (i : Nat) {e : PySem.W.Frag → Bool} (h : ex[i]? = some e) : e K = true := List.all_eq_true.mp T.x e (List.mem_of_getElem? h)
theorem TxE.con {fa : List He.Fa} {fn : List He.DefD} {ex : List (PySem.W.Frag → Bool)} {K : PySem.W.Frag} {mg : Str → Option Value} (T : TxE fa fn ex K mg) (i : Nat) {C f : Str} {v : He.Dv} (h : ex[i]? = some fun K => He.conB K C f v) (hc : PySem.W.copiedNames.contains f = false := by decide) : ∃ u, Con K (He.ga K C) f (v.v K) u := He.conB_ok (T.mo i h) hc
/-! ### objects -/
structure Pd where
  p : Hp → V → Prop
  mono : ∀ {H H' : Hp} {v : V}, Ex H H' → p H v → p H' v
def pd {α : Type} (R : Rep α) (x : α) : Pd := ⟨fun H v => R.r H v x, fun e h => R.mono e h⟩
def Fl (ns : List Str) (ps : List Pd) (H : Hp) (fs : List (Str × V)) : Prop := fs.map (·.1) = ns ∧ Paired (fun v (q : Pd) => q.p H v) (fs.map (·.2)) ps
theorem Fl.mono {ns : List Str} {ps : List Pd} {H H' : Hp} {fs : List (Str × V)} (e : Ex H H') (h : Fl ns ps H fs) : Fl ns ps H' fs := ⟨h.1, Paired.mapP h.2 fun _ q => q.mono e⟩
def rObj {α : Type} (C : Addr) (ns : List Str) (fl : α → List Pd) : Rep α := ⟨fun H v x => ∃ a dx fs, v = .ref a ∧ H a = some (.ins C dx fs) ∧ Fl ns (fl x) H fs, fun e ⟨a, dx, fs, h1, h2, h3⟩ => ⟨a, dx, fs, h1, e a _ h2, h3.mono e⟩⟩
def cI (C : Addr) (ns : List Str) (ps : List Pd) : CP := ⟨fun G o => ∃ dx fs, o = .ins C dx fs ∧ Fl ns ps G fs, fun e ⟨dx, fs, h1, h2⟩ => ⟨dx, fs, h1, h2.mono e⟩⟩
theorem look_at {ns : List Str} : ∀ {fs : List (Str × V)} {f : Str} {i : Nat} {v : V}, fs.map (·.1) = ns → (ns.findIdx? (fun x => x == f)) = some i → (fs.map (·.2))[i]? = some v → fs.lookup f = some v := by
  intro fs
  induction fs generalizing ns with
  | nil => intro f i v h1 h2 h3; simp at h3
  | cons q fs ih =>
    intro f i v h1 h2 h3
    obtain ⟨n, w⟩ := q
    subst h1
    rw [List.map_cons, List.findIdx?_cons] at h2
    rw [List.lookup_cons]
    by_cases hn : (n == f) = true
    · rw [if_pos hn] at h2
      cases h2
      have hf : (f == n) = true := by rw [beq_iff_eq] at hn ⊢; exact hn.symm
      rw [hf]
      simpa using h3
    · rw [if_neg hn] at h2
      obtain ⟨j, hj, e⟩ := Option.map_eq_some_iff.mp h2
      subst e
      have hf : (f == n) = false := by
        cases q : (f == n) with
        | false => rfl
        | true => rw [beq_iff_eq] at q; exact absurd (by rw [beq_iff_eq]; exact q.symm) hn
      rw [hf]
      exact ih rfl hj (by simpa using h3)
theorem look_no {ns : List Str} : ∀ {fs : List (Str × V)} {f : Str}, fs.map (·.1) = ns → ns.contains f = false → fs.lookup f = none := by
  intro fs
  induction fs generalizing ns with
  | nil => intro f _ _; rfl
  | cons q fs ih =>
    intro f h1 h2
    obtain ⟨n, w⟩ := q
    subst h1
    rw [List.map_cons, List.contains_cons, Bool.or_eq_false_iff] at h2
    rw [List.lookup_cons, h2.1]
    exact ih rfl h2.2
theorem putF_new {f : Str} {v : V} : ∀ {fs : List (Str × V)}, (fs.map (·.1)).contains f = false → putF f v fs = fs ++ [(f, v)]
  | [], _ => rfl
  | (n, w) :: fs, h => by
    rw [List.map_cons, List.contains_cons, Bool.or_eq_false_iff] at h
    have hn : ¬ (n = f) := fun e => by subst e; simp at h
    unfold putF
    rw [if_neg hn, putF_new h.2]; rfl
section
variable {K : PySem.W.Frag} {σ : L2.St} {G0 H0 G H G2 H2 W : Hp} {ls : List Addr} {cs : Cs} {l C : Addr} {cp cp' : CP} {ta tb te tc to : TE} {t u : TT} {α β γ ι κ : Type} {R : Rep α} {S : Rep β} {T : Rep γ} {A : AR ι} {D : Ends} {tu tv tz : TS} {g : TG} {ns : List Str} {fl : α → List Pd}
theorem nnO_ : (rObj C ns fl).NN := fun ⟨a, _, _, h, _⟩ => by rw [h]; simp
/-- o.f -/
theorem e_fld {m : Option α} {f : Str} (i : Nat) (p : α → β) (h : E to σ G W (rObj C ns fl) m) (hc : Cls K C) (hn : NoAttr K C f) (hi : ns.findIdx? (fun x => x == f) = some i) (hp : ∀ x, (fl x)[i]? = some (pd S (p x))) : E (tFld K to f) σ G W S (m >>= fun x => some (p x)) := fun z hz H e e' Q q => by
  obtain ⟨x, hx, hz⟩ := bindS hz
  cases hz
  refine h x hx H e e' _ fun v H1 G1 u r => ?_
  obtain ⟨a, dx, fs, rfl, h2, h3⟩ := r
  obtain ⟨w, hw, r2⟩ := pr_get h3.2 (hp x)
  exact ⟨a, C, dx, fs, w, rfl, u.gh a _ h2, hc, hn, look_at h3.1 hi hw, q w H1 G1 u r2⟩
/-- o.NAME, of the class -/
theorem e_con {m : Option α} {f : Str} {v : V} {uu : Value} {x : β} (h : E to σ G W (rObj C ns fl) m) (hc : Cls K C) (hk : Con K C f v uu) (hi : ns.contains f = false) (hv : ∀ H, S.r H v x) : E (tCon K to f) σ G W S (m >>= fun _ => some x) := fun z hz H e e' Q q => by
  obtain ⟨y, hy, hz⟩ := bindS hz
  cases hz
  refine h y hy H e e' _ fun v H1 G1 u r => ?_
  obtain ⟨a, dx, fs, rfl, h2, h3⟩ := r
  exact ⟨a, C, dx, fs, _, uu, rfl, u.gh a _ h2, hc, hk, look_no h3.1 hi, q _ H1 G1 u (hv G1)⟩
/-- o.m(..) -/
theorem e_meth {m : Option α} {mi : Option ι} {me : Str} {f : α × ι → Option γ} {ta : TA} {X : XK} (h : E to σ G W (rObj C ns fl) m) (ha : EA ta σ G W A mi) (hi : ns.contains me = false) : E (tMeth C me (PF (aC (rObj C ns fl) A) T f) [] X to ta) σ G W T (m >>= fun o => mi >>= fun i => f (o, i)) := fun z hz H e e' Q q => by
  obtain ⟨x, hx, hz⟩ := bindS hz
  obtain ⟨y, hy, hz⟩ := bindS hz
  refine h x hx H e e' _ fun v H1 G1 u r => ?_
  obtain ⟨a, dx, fs, rfl, h2, h3⟩ := r
  refine ⟨a, dx, fs, rfl, u.gh a _ h2, look_no h3.1 hi, ?_⟩
  refine (ha.mono u.gg (e'.trans u.hh)) y hy H1 u.gh (Ex.refl _) _ fun vs H3 G3 u3 r3 => ?_
  rw [List.append_nil]
  exact ⟨G3, (x, y), z, u3.gh, ⟨.ref a, vs, rfl, ⟨a, dx, fs, rfl, u3.gg a _ h2, h3.mono u3.gg⟩, r3⟩, hz, fun v H4 G4 u4 r4 => q v H4 G4 ((u.trans u3).trans u4) r4⟩
theorem el_meth {m : Option α} {mi : Option ι} {me : Str} {f : α × ι → Option (List γ)} {ta : TA} {X : XK} (h : E to σ G W (rObj C ns fl) m) (ha : EA ta σ G W A mi) (hi : ns.contains me = false) : EL (tMeth C me (PL (aC (rObj C ns fl) A) T f) [] X to ta) σ G W T (m >>= fun o => mi >>= fun i => f (o, i)) := fun z hz H e e' Q q => by
  obtain ⟨x, hx, hz⟩ := bindS hz
  obtain ⟨y, hy, hz⟩ := bindS hz
  refine h x hx H e e' _ fun v H1 G1 u r => ?_
  obtain ⟨a, dx, fs, rfl, h2, h3⟩ := r
  refine ⟨a, dx, fs, rfl, u.gh a _ h2, look_no h3.1 hi, ?_⟩
  refine (ha.mono u.gg (e'.trans u.hh)) y hy H1 u.gh (Ex.refl _) _ fun vs H3 G3 u3 r3 => ?_
  rw [List.append_nil]
  exact ⟨G3, (x, y), z, u3.gh, ⟨.ref a, vs, rfl, ⟨a, dx, fs, rfl, u3.gg a _ h2, h3.mono u3.gg⟩, r3⟩, hz, fun p H4 G4 hp u4 r4 => q p H4 G4 (fresh_back (u.hh.trans u3.hh) hp) ((u.trans u3).trans u4) r4⟩
/-- the promise of an __init__: fields of the new object -/
def PI {ι α : Type} (C : Addr) (A : AR ι) (ns : List Str) (fl : α → List Pd) (f : ι → Option α) : Sp := fun vs H Q _ => ∃ G x ws i o, vs = .ref x :: ws ∧ Wd G H [(x, cI C [] [])] ∧ A.r G ws i ∧ f i = some o ∧
  ∀ H2 G2, Fr G H G2 H2 [x] → Wd G2 H2 [(x, cI C ns (fl o))] → Q .non H2
theorem ob_freeze {p : Addr} {ps : List Pd} (w : Wd G H [(p, cI C ns ps)]) : ∃ G2, Ex G G2 ∧ Ex G2 H ∧ (∀ a, a ≠ p → G a = none → G2 a = none) ∧ ∃ dx fs, G2 p = some (.ins C dx fs) ∧ Fl ns ps G2 fs := by
  obtain ⟨h1, o, h2, dx, fs, rfl, h3⟩ := w.head
  refine ⟨upd G p (.ins C dx fs), Ex.new h1, fun a u' e => ?_, fun a ne h => by rw [upd_ne ne]; exact h, dx, fs, upd_same, h3.mono (Ex.new h1)⟩
  by_cases q : a = p
  · subst q; rw [upd_same] at e; cases e; exact h2
  · rw [upd_ne q] at e; exact w.ex a u' e
theorem new_ins {x dx : Addr} (e : Ex G H) (nx : H x = none) (ndx : H dx = none) (ne : dx ≠ x) : Wd G (upd (upd H dx (.own x)) x (.ins C dx [])) [(x, cI C [] [])] := by
  have nx' : (upd H dx (.own x)) x = none := by rw [upd_ne ne.symm]; exact nx
  have e1 : Ex G (upd H dx (.own x)) := e.trans (Ex.new ndx)
  exact (Wd.nil e1).new nx' ⟨dx, [], rfl, rfl, .nil⟩
/-- C(..) -/
theorem e_make {f : ι → Option α} {ta : TA} {mi : Option ι} {X : XK} (ha : EA ta σ G W A mi) : E (tMake C (PI C A ns fl f) [] X ta) σ G W (rObj C ns fl) (mi >>= f) := fun z hz H e e' Q q => by
  obtain ⟨i, hi, hz⟩ := bindS hz
  refine ha i hi H e e' _ fun vs H1 G1 u1 r1 => ?_
  intro x dx nx ndx ne
  rw [List.append_nil]
  have w1 : Wd G1 (upd (upd H1 dx (.own x)) x (.ins C dx [])) [(x, cI C [] [])] := new_ins u1.gh nx ndx ne
  refine ⟨G1, x, vs, i, z, rfl, w1, r1, hz, fun H2 G2 fr w2 => ⟨rfl, ?_⟩⟩
  obtain ⟨G3, k1, k2, k3, dx', fs, k4, k5⟩ := ob_freeze w2
  have hh : Ex H1 H2 := fun a o h => by
    have na : a ≠ x := ne_of_none h nx
    have nd : a ≠ dx := ne_of_none h ndx
    exact fr.fr a o (by rw [upd_ne na, upd_ne nd]; exact h) fun z => na (List.mem_singleton.mp z)
  have up : Up G1 H1 G3 H2 := ⟨fr.gg.trans k1, k2, hh, fun a h1 h2 => by
    have na : a ≠ x := fun z => by subst z; exact h1 nx
    have nd : a ≠ dx := fun z => by subst z; exact h1 ndx
    exact k3 a na (fr.nw a (by rw [upd_ne na, upd_ne nd]; exact h1) h2)⟩
  exact q _ H2 G3 (u1.trans up) ⟨x, dx', fs, rfl, k4, k5⟩
/-- self.f = e, a new field -/
theorem x_fldN {i j : Nat} {f : Str} {m : Option β} {x : β} {ps : List Pd} (w : Wo G0 H0 ls G H cs) (hc : cs[j]? = some (l, cI C ns ps)) (hi : σ[i]? = some (some (.ref l))) (h : E te σ G H S m) (hm : m = some x) (hC : Cls K C) (hn : NoAttr K C f) (hz : ns.contains f = false) (hs : ns.length < 1000)
    (k : ∀ H2 G2, Wo G0 H0 ls G2 H2 (cs.set j (l, cI C (ns ++ [f]) (ps ++ [pd S x]))) → Ex G G2 → tz D σ H2) : tSeq (sFld K (tVar i) te f) tz D σ H :=
  h x hm H w.ex (Ex.refl _) (fun y H1 => tVar i σ H1 fun x H2 => ∃ a C dx fs, x = .ref a ∧ H2 a = some (.ins C dx fs) ∧ Cls K C ∧ NoAttr K C f ∧ fs.length < 1000 ∧ tz D σ (upd H2 a (.ins C dx (putF f y fs)))) fun v H3 G3 u r => by
    have w3 := w.up u
    obtain ⟨_, o3, k2, dx, fs, rfl, k3⟩ := w3.w.getAt hc
    refine ⟨.ref l, hi, l, C, dx, fs, rfl, k2, hC, hn, by rw [← List.length_map (f := (·.1)), k3.1]; exact hs, ?_⟩
    rw [putF_new (by rw [k3.1]; exact hz)]
    refine k _ _ (w3.writeAt hc ⟨dx, _, rfl, ?_, ?_⟩) u.gg
    · rw [List.map_append, k3.1]; rfl
    · rw [List.map_append]; exact pr_app k3.2 (.cons r .nil)
theorem o_try {tb : TS} (h : tb { D with nx := tz D } σ H) : tSeq tb tz D σ H := h
theorem x_call {m : Option α} {x : α} (w : Wo G0 H0 ls G H cs) (h : E te σ G H R m) (hm : m = some x) (k : ∀ H2, Wo G0 H0 ls G H2 cs → tz D σ H2) : tSeq (tDrop te) tz D σ H :=
  h x hm H w.ex (Ex.refl _) (fun _ H1 => tz D σ H1) fun v H2 G2 u r => k H2 (w.sc u.hh)
/-! ### isinstance, the kind known -/
def KTy (R : Rep α) (n : String) : Prop := ∀ {K : PySem.W.Frag} {H : Hp} {v : V} {x : α}, R.r H v x → TyX K H v (.type n)
theorem ktI : KTy rI "int" := fun h => by rw [show _ = V.int _ from h]; exact .base (.int _)
theorem ktB : KTy rB "bool" := fun h => by rw [show _ = V.bl _ from h]; exact .base (.bl _)
theorem ktS : KTy rS "str" := fun h => by rw [show _ = V.str _ from h]; exact .base (.str _)
theorem ktL : KTy (rL R) "list" := fun ⟨a, vs, h, h2, _⟩ => by rw [h]; exact .base (.lst h2)
theorem ktT : KTy (rT R) "tuple" := fun ⟨a, vs, h, h2, _⟩ => by rw [h]; exact .base (.tup h2)
theorem ktP : KTy (rP R S) "tuple" := fun ⟨a, _, _, h, h2, _⟩ => by rw [h]; exact .base (.tup h2)
abbrev rIsiE (K : PySem.W.Frag) : List V → Hp → VK → Prop := rIsi K
theorem e_isi {m : Option α} {n c : String} {b : Bool} (h : E te σ G W R m) (hk : KTy R n) (hb : kitB n c = some b) : E (tCB (rIsi K) (tCons te (tCons (tC (.ty c)) tNil))) σ G W rB (m >>= fun _ => some b) := fun z hz H e e' Q q => by
  obtain ⟨x, hx, hz⟩ := bindS hz
  cases hz
  refine h x hx H e e' _ fun v H1 G1 u r => ?_
  exact ⟨v, .ty c, .type n, .type c, b, rfl, .ty c, hk (R.mono u.gh r), kit_ty hb, q _ H1 G1 u rfl⟩
/-! ### == of data -/
structure Dt (R : Rep α) (d : α → PyData) (n : Nat) : Prop where
  dp : ∀ {K : PySem.W.Frag} {H : Hp} {v : V} {x : α}, R.r H v x → Dp K H v (d x)
  lay : ∀ x, (d x).canLay0 = true
  dep : ∀ x, (d x).depth ≤ n
  eq : ∀ x y, PyData.eqv (d x) (d y) = true ↔ x = y
theorem dtI : Dt rI PyData.int 0 := ⟨fun h => by rw [show _ = V.int _ from h]; exact .int _, fun _ => rfl, fun _ => Nat.le_refl _, fun x y => by simp [PyData.eqv]⟩
theorem dtB : Dt rB PyData.bool 0 := ⟨fun h => by rw [show _ = V.bl _ from h]; exact .bl _, fun _ => rfl, fun _ => Nat.le_refl _, fun x y => by simp [PyData.eqv]⟩
theorem rr_eqD {d : α → PyData} {n : Nat} [DecidableEq α] (h : Dt R d n) (hn : n ≤ 64) : RR (rEqD K) R R rB (fun x y => some (decide (x = y))) := fun v w x y z H G hv hw hz e Q q => by
  cases hz
  refine ⟨d x, d y, h.dp (R.mono e hv), h.dp (R.mono e hw), Bool.and_eq_true_iff.mpr ⟨h.lay x, decide_eq_true (Nat.le_trans (h.dep x) hn)⟩, Bool.and_eq_true_iff.mpr ⟨h.lay y, decide_eq_true (Nat.le_trans (h.dep y) hn)⟩, q _ H G (Up.refl e) ?_⟩
  show V.bl _ = V.bl _
  congr 1
  by_cases e : x = y
  · rw [decide_eq_true e]; exact (h.eq x y).mpr e
  · rw [decide_eq_false e]
    cases q : PyData.eqv (d x) (d y) with
    | false => rfl
    | true => exact absurd ((h.eq x y).mp q) e
theorem rr_neD {d : α → PyData} {n : Nat} [DecidableEq α] (h : Dt R d n) (hn : n ≤ 64) : RR (rNeD K) R R rB (fun x y => some (!decide (x = y))) := fun v w x y z H G hv hw hz e Q q => by
  cases hz
  refine ⟨d x, d y, h.dp (R.mono e hv), h.dp (R.mono e hw), Bool.and_eq_true_iff.mpr ⟨h.lay x, decide_eq_true (Nat.le_trans (h.dep x) hn)⟩, Bool.and_eq_true_iff.mpr ⟨h.lay y, decide_eq_true (Nat.le_trans (h.dep y) hn)⟩, q _ H G (Up.refl e) ?_⟩
  show V.bl _ = V.bl _
  congr 2
  by_cases e : x = y
  · rw [decide_eq_true e]; exact (h.eq x y).mpr e
  · rw [decide_eq_false e]
    cases q : PyData.eqv (d x) (d y) with
    | false => rfl
    | true => exact absurd ((h.eq x y).mp q) e
end
end Sim

namespace Sim
open PySem L2 Evl
section
variable {K : PySem.W.Frag} {σ : L2.St} {G0 H0 G H G2 H2 W : Hp} {ls : List Addr} {cs : Cs} {l C : Addr} {cp cp' : CP} {ta tb te tc to : TE} {t u : TT} {α β γ ι κ : Type} {R : Rep α} {S : Rep β} {T : Rep γ} {A : AR ι} {D : Ends} {tu tv tz : TS} {g : TG} {ns : List Str} {fl : α → List Pd}
/-! ### a list lent to a def that only reads it -/
/-- at l, its items standing in the data heap, it itself not -/
structure Lent (G W : Hp) (l : Addr) (B : Rep κ) (ys : List κ) : Prop where
  n : G l = none
  at_ : ∃ vs, W l = some (.lst vs) ∧ Paired (B.r G) vs ys
def PB (A : AR ι) (ad : ι → Addr) (B : Rep κ) (R : Rep α) (f : List κ → ι → Option α) : Sp := fun vs H Q _ => ∃ G i ys x, Ex G H ∧ A.r G vs i ∧ Lent G H (ad i) B ys ∧ f ys i = some x ∧ ∀ v H2 G2, Up G H G2 H2 → R.r G2 v x → Q v H2
def PIB (C : Addr) (A : AR ι) (ad : ι → Addr) (B : Rep κ) (ns : List Str) (fl : α → List Pd) (f : List κ → ι → Option α) : Sp := fun vs H Q _ => ∃ G x ws i ys o, vs = .ref x :: ws ∧ Wd G H [(x, cI C [] [])] ∧ A.r G ws i ∧ Lent G H (ad i) B ys ∧ f ys i = some o ∧
  ∀ H2 G2, Fr G H G2 H2 [x] → Wd G2 H2 [(x, cI C ns (fl o))] → Q .non H2
theorem Wo.lent {i : Nat} {B : Rep κ} {ys : List κ} (w : Wo G0 H0 ls G H cs) (h : cs[i]? = some (l, cL B ys)) : Lent G H l B ys := by
  obtain ⟨h1, o, h2, vs, rfl, h3⟩ := w.w.getAt h
  exact ⟨h1, vs, h2, h3⟩
/-- still lent, as the def goes on -/
theorem Wo.lentOf {B : Rep κ} {ys : List κ} (w : Wo G0 H0 ls G H cs) (L : Lent G0 H0 l B ys) (h : l ∉ ls) : Lent G H l B ys := by
  obtain ⟨vs, h2, h3⟩ := L.at_
  exact ⟨w.f.nw _ (by rw [h2]; simp) L.n, vs, w.f.fr _ _ h2 h, Paired.mapP h3 fun _ _ => B.mono w.f.gg⟩
theorem Lent.up {B : Rep κ} {ys : List κ} {G1 H1 H : Hp} (L : Lent G W l B ys) (e' : Ex W H) (u : Up G H G1 H1) : Lent G1 H1 l B ys := by
  obtain ⟨vs, h2, h3⟩ := L.at_
  exact ⟨u.nw _ (by rw [e' _ _ h2]; simp) L.n, vs, u.hh _ _ (e' _ _ h2), Paired.mapP h3 fun _ _ => B.mono u.gg⟩
theorem Lent.rl {B : Rep κ} {ys : List κ} (L : Lent G W l B ys) (e : Ex G W) : (rL B).r W (.ref l) ys := by
  obtain ⟨vs, h2, h3⟩ := L.at_
  exact ⟨l, vs, rfl, h2, Paired.mapP h3 fun _ _ => B.mono e⟩
theorem Lent.ne {B : Rep κ} {ys : List κ} {x : Addr} {ps : List Pd} (L : Lent G H l B ys) (w : Wd G H [(x, cI C ns ps)]) : l ∉ [x] := fun z => by
  obtain ⟨vs, h2, _⟩ := L.at_
  obtain ⟨_, o, k2, dx, fs, rfl, _⟩ := w.head
  rw [List.mem_singleton.mp z, k2] at h2
  cases h2
theorem x_forN {i : Nat} {xs : List α} (w : Wo G0 H0 ls G H cs) (L : Lent G0 H0 l R xs) (hl : l ∉ ls) (hi : σ[i]? = some (some (.ref l))) (P : Nat → Hp → Hp → L2.St → Prop) (hP : ∀ i G' H' σ', P i G' H' σ' → ∃ cs', Wo G0 H0 ls G' H' cs')
    (h0 : P 0 G H σ)
    (hs : ∀ i x v σ' G' H', xs[i]? = some x → P i G' H' σ' → R.r G' v x → g v σ' H' fun σ2 H2 => tu { D with nx := fun σ' H' => ∃ G', P (i + 1) G' H' σ', ct := fun σ' H' => ∃ G', P (i + 1) G' H' σ', bk := tz D } σ2 H2)
    (hd : ∀ σ' G' H', P xs.length G' H' σ' → tz D σ' H') : tSeq (tFor (iList K (tVar i)) g tu) tz D σ H := by
  obtain ⟨vs, h2, h3⟩ := L.at_
  refine ⟨.ref l, hi, l, rfl, ⟨vs, Or.inl (Or.inl (w.f.fr _ _ h2 hl))⟩, for_list (K := K) (a := l) (xs := vs) (D := { D with nx := tz D }) (fun i σ' H' => ∃ G', P i G' H' σ') ⟨G, h0⟩ ?_ ?_ ?_⟩
  · rintro i σ' H' _ ⟨G', p⟩
    obtain ⟨cs', w'⟩ := hP _ _ _ _ p
    exact Or.inl (Or.inl (w'.f.fr _ _ h2 hl))
  · rintro i y σ' H' hy ⟨G', p⟩
    obtain ⟨x, hx, r⟩ := pr_get' h3 hy
    obtain ⟨cs', w'⟩ := hP _ _ _ _ p
    exact hs i x y σ' G' H' hx p (R.mono w'.f.gg r)
  · rintro σ' H' ⟨G', p⟩
    rw [h3.length] at p
    exact hd σ' G' H' p
/-- f(.., cell, ..), the cell only read -/
theorem e_callB {B : Rep κ} {ad : ι → Addr} {f : List κ → ι → Option γ} {ys : List κ} {ta : TA} {mi : Option ι} {X : XK} (ha : EA ta σ G W A mi) (L : Lent G W l B ys) (hl : ∀ i, mi = some i → ad i = l) : E (tCall (PB A ad B T f) [] X ta) σ G W T (mi >>= fun i => f ys i) := fun z hz H e e' Q q => by
  obtain ⟨i, hi, hz⟩ := bindS hz
  refine ha i hi H e e' _ fun vs H1 G1 u1 r1 => ?_
  rw [List.append_nil]
  have := hl i hi
  subst this
  exact ⟨G1, i, ys, z, u1.gh, r1, L.up e' u1, hz, fun v H2 G2 u2 r => q v H2 G2 (u1.trans u2) r⟩
theorem e_makeB {B : Rep κ} {ad : ι → Addr} {f : List κ → ι → Option α} {ys : List κ} {ta : TA} {mi : Option ι} {X : XK} (ha : EA ta σ G W A mi) (L : Lent G W l B ys) (hl : ∀ i, mi = some i → ad i = l) : E (tMake C (PIB C A ad B ns fl f) [] X ta) σ G W (rObj C ns fl) (mi >>= fun i => f ys i) := fun z hz H e e' Q q => by
  obtain ⟨i, hi, hz⟩ := bindS hz
  refine ha i hi H e e' _ fun vs H1 G1 u1 r1 => ?_
  have := hl i hi
  subst this
  intro x dx nx ndx ne
  rw [List.append_nil]
  have w1 : Wd G1 (upd (upd H1 dx (.own x)) x (.ins C dx [])) [(x, cI C [] [])] := new_ins u1.gh nx ndx ne
  have L1 := L.up e' u1
  have L2 : Lent G1 (upd (upd H1 dx (.own x)) x (.ins C dx [])) (ad i) B ys := by
    obtain ⟨vs', h2, h3⟩ := L1.at_
    exact ⟨L1.n, vs', by rw [upd_ne (ne_of_none h2 nx), upd_ne (ne_of_none h2 ndx)]; exact h2, h3⟩
  refine ⟨G1, x, vs, i, ys, z, rfl, w1, r1, L2, hz, fun H2 G2 fr w2 => ⟨rfl, ?_⟩⟩
  obtain ⟨G3, k1, k2, k3, dx', fs, k4, k5⟩ := ob_freeze w2
  have hh : Ex H1 H2 := fun a o h => by
    have na : a ≠ x := ne_of_none h nx
    have nd : a ≠ dx := ne_of_none h ndx
    exact fr.fr a o (by rw [upd_ne na, upd_ne nd]; exact h) fun z => na (List.mem_singleton.mp z)
  have up : Up G1 H1 G3 H2 := ⟨fr.gg.trans k1, k2, hh, fun a h1 h2 => by
    have na : a ≠ x := fun z => by subst z; exact h1 nx
    have nd : a ≠ dx := fun z => by subst z; exact h1 ndx
    exact k3 a na (fr.nw a (by rw [upd_ne na, upd_ne nd]; exact h1) h2)⟩
  exact q _ H2 G3 (u1.trans up) ⟨x, dx', fs, rfl, k4, k5⟩
end
/-! ### a method by its name, with its promise -/
def Fm (P : Program) (w : World) (K : PySem.W.Frag) (mg : Str → Option Value) (base : Heap) (CX : CXT) (k : Nat) (c m : Str) (ps : List Str) (sp : Sp) : Prop :=
  ∃ fd, FnOk P w K mg base CX k (He.ma K (He.ga K c) m) fd ps sp ∧ Binds K fd ps []
theorem fm_mk {K : PySem.W.Frag} {mg : Str → Option Value} {P : Program} {w : World} {base : Heap} {CX : CXT} {k : Nat} {c m x qual : Str} {ps : List Str} {sp : Sp} {fd : FuncData} {params : Arguments} {body : List Stmt} {scope : Scope} (F : FunD K x qual params body scope [] [] (He.ma K (He.ga K c) m) fd)
    (hb : ∀ (kV doc pm : Value) (an : Option Addr) (cdv ct : Value) (us : List Value), us.length = ps.length → bindArgs (PySem.W.fnOf x qual params body scope .none kV doc pm an cdv ct) ⟨us, []⟩ = pure (ps.zip us))
    (h : FnOk P w K mg base CX k (He.ma K (He.ga K c) m) fd ps sp) : Fm P w K mg base CX k c m ps sp := ⟨fd, h, F.bindsN hb⟩
/-! ### data that is compared -/
section
variable {α β : Type} {R : Rep α} {S : Rep β}
theorem pr_dp {d : α → PyData} {n : Nat} (h : Dt R d n) {K : PySem.W.Frag} {H : Hp} : ∀ {vs : List V} {xs : List α}, Paired (R.r H) vs xs → DpAll K H vs (xs.map d)
  | _, _, .nil => .nil
  | _, _, .cons r t => .cons (h.dp r) (pr_dp h t)
theorem layAll {d : α → PyData} {n : Nat} (h : Dt R d n) : ∀ xs : List α, PyData.canLayAll0 (xs.map d) = true
  | [] => rfl
  | x :: xs => Bool.and_eq_true_iff.mpr ⟨h.lay x, layAll h xs⟩
theorem depAll {d : α → PyData} {n : Nat} (h : Dt R d n) : ∀ xs : List α, PyData.depthAll (xs.map d) ≤ n
  | [] => Nat.zero_le _
  | x :: xs => Nat.max_le.mpr ⟨h.dep x, depAll h xs⟩
theorem eqAll {d : α → PyData} {n : Nat} (h : Dt R d n) : ∀ xs ys : List α, PyData.eqvAll (xs.map d) (ys.map d) = true ↔ xs = ys
  | [], [] => by simp [PyData.eqvAll]
  | x :: xs, y :: ys => by
    simp only [List.map_cons, PyData.eqvAll, Bool.and_eq_true, h.eq, eqAll h xs ys, List.cons.injEq]
  | [], y :: ys => by simp [PyData.eqvAll]
  | x :: xs, [] => by simp [PyData.eqvAll]
theorem dtL {d : α → PyData} {n : Nat} (h : Dt R d n) : Dt (rL R) (fun xs => PyData.list (xs.map d)) (n + 1) :=
  ⟨fun ⟨a, vs, e, h2, h3⟩ => by rw [e]; exact .lst (Or.inl (Or.inl h2)) (pr_dp h h3), fun xs => layAll h xs, fun xs => Nat.succ_le_succ (depAll h xs), fun xs ys => by simp only [PyData.eqv]; exact eqAll h xs ys⟩
theorem dtT {d : α → PyData} {n : Nat} (h : Dt R d n) : Dt (rT R) (fun xs => PyData.tuple (xs.map d)) (n + 1) :=
  ⟨fun ⟨a, vs, e, h2, h3⟩ => by rw [e]; exact .tup (Or.inl (Or.inl h2)) (pr_dp h h3), fun xs => layAll h xs, fun xs => Nat.succ_le_succ (depAll h xs), fun xs ys => by simp only [PyData.eqv]; exact eqAll h xs ys⟩
theorem dtP {d : α → PyData} {f : β → PyData} {n k : Nat} (h : Dt R d n) (h' : Dt S f k) : Dt (rP R S) (fun p => PyData.tuple [d p.1, f p.2]) (max n k + 1) :=
  ⟨fun ⟨a, x, y, e, h2, h3, h4⟩ => by rw [e]; exact .tup (Or.inl (Or.inl h2)) (.cons (h.dp h3) (.cons (h'.dp h4) .nil)), fun p => by
    show (PyData.canLay0 _ && (PyData.canLay0 _ && true)) = true
    rw [h.lay, h'.lay]; rfl, fun p => by
    show max (PyData.depth _) (max (PyData.depth _) 0) + 1 ≤ _
    have := h.dep p.1; have := h'.dep p.2; omega, fun p q => by
    simp only [PyData.eqv, PyData.eqvAll, Bool.and_eq_true, h.eq, h'.eq, and_true]
    exact ⟨fun ⟨a, b⟩ => Prod.ext a b, fun e => by subst e; exact ⟨rfl, rfl⟩⟩⟩
end
end Sim
namespace Sim
open PySem L2 Evl
section
variable {K : PySem.W.Frag} {σ : L2.St} {G0 H0 G H G2 H2 W : Hp} {ls : List Addr} {cs : Cs} {l C : Addr} {te : TE} {α β : Type} {R : Rep α} {S : Rep β} {ns : List Str}
/-- the script -/
def rScr (K : PySem.W.Frag) : Rep (List Int) := ⟨fun H v xs => ∃ a, v = .ref a ∧ SqL K H a (xs.map V.int), fun e ⟨a, h1, h2⟩ => ⟨a, h1, ex_l e h2⟩⟩
theorem rr_ixScr : RR (rIxL K) (rScr K) rI rI (fun xs i => atI xs i) := fun v w xs i z H G hv hw hz e Q q => by
  obtain ⟨a, rfl, h2⟩ := hv
  cases hw
  have hz' : (ixN xs.length i).bind (fun j => xs[j]?) = some z := hz
  cases hj : ixN xs.length i with
  | none => rw [hj] at hz'; cases hz'
  | some j =>
    rw [hj] at hz'
    have hz2 : xs[j]? = some z := hz'
    refine ⟨a, _, i, .int z, rfl, rfl, ex_l e h2, ?_, q _ H G (Up.refl e) rfl⟩
    show (ixN (xs.map V.int).length i).bind (fun j => (xs.map V.int)[j]?) = some (.int z)
    rw [List.length_map, hj]
    show (xs.map V.int)[j]? = _
    rw [List.getElem?_map, hz2]; rfl
theorem rc_lenScr : RC (rLn K) (aC (rScr K) aN) rI (fun i => some (i.1.length : Int)) := fun vs i z H G hv hz e Q q => by
  cases hz
  obtain ⟨v, ws, rfl, ⟨a, rfl, h2⟩, rfl⟩ := hv
  refine ⟨a, _, rfl, Or.inl (ex_l e h2), q _ H G (Up.refl e) ?_⟩
  show V.int _ = V.int _
  rw [List.length_map]
def powM (a b : Int) : Option Int := if 0 ≤ b ∧ b ≤ 1000000 ∧ a.natAbs < 2 ^ 64 then some (a ^ b.toNat) else none
theorem rr_pow : RR (L2.rI CPow fun i j => .int (i ^ j.toNat)) rI rI rI powM := rr_I fun i j z h => by
  unfold powM at h
  split at h
  · rename_i hc; cases h; exact ⟨hc, fun _ => rfl⟩
  · cases h
/-- self.NAME while self is being made -/
theorem e_conC {G' : Hp} {i j : Nat} {f : Str} {v : V} {uu : Value} {x : β} {ps : List Pd} (w : Wo G0 H0 ls G H cs) (hc : cs[j]? = some (l, cI C ns ps)) (hi : σ[i]? = some (some (.ref l))) (hC : Cls K C) (hk : Con K C f v uu) (hz : ns.contains f = false) (hv : ∀ H, S.r H v x) : E (tCon K (tVar i) f) σ G' H S (some x) := fun y hy H' e e' Q q => by
  cases hy
  obtain ⟨_, o, k2, dx, fs, rfl, k3⟩ := w.w.getAt hc
  exact ⟨.ref l, hi, l, C, dx, fs, v, uu, rfl, e' _ _ k2, hC, hk, look_no k3.1 hz, q _ H' G' (Up.refl e) (hv G')⟩
theorem el_listRg {m : Option Int} (h : E te σ G W rI m) : EL (tLstRg (tRg1 te)) σ G W rI (m >>= fun n => rngM 0 n) := fun z hz H e e' Q q => by
  obtain ⟨n, hn, hz⟩ := bindS hz
  refine h n hn H e e' _ fun v H1 G1 u r => ?_
  unfold rngM at hz
  split at hz
  · rename_i hb
    cases hz
    refine ⟨n, r, ⟨by omega, by omega, by omega, by omega, by omega⟩, fun p hp => q p _ G1 (fresh_back u.hh hp) (u.trans (up_new u.gh hp)) (wd_new u.gh hp ?_)⟩
    have : rgV 0 n = (rng 0 n).map V.int := by unfold rgV rng; rw [List.map_map]; rfl
    rw [this]
    exact ints_pr _
  · cases hz
end
end Sim

set_option maxHeartbeats 4000000
namespace My
open PySem PySem.Spec PyProof.Rows L2 Sim
def top (i : Nat) : Stmt := PySem.Challenge.pw_askedpoints_k01_order_of_pairs.main.body.getD i (.Pass ⟨0, 0, 0, 0⟩)
abbrev s__wall : Stmt := top 0
abbrev s_closure : Stmt := top 9
abbrev s_turned : Stmt := top 10
abbrev s_least_above : Stmt := top 11
abbrev s_bounds_table : Stmt := top 12
abbrev s_first_ring : Stmt := top 13
abbrev s_first_lack : Stmt := top 14
abbrev s_longest : Stmt := top 15
abbrev s_neighbours : Stmt := top 16
abbrev s_Order___init__ : Stmt := inClass (top 18) 1
abbrev s_Order_chain : Stmt := inClass (top 18) 2
abbrev s_Order_flat : Stmt := inClass (top 18) 3
abbrev s_Order_marks : Stmt := inClass (top 18) 4
abbrev s_Order__require : Stmt := inClass (top 18) 5
abbrev s_Order_below : Stmt := inClass (top 18) 6
abbrev s_Order_join_of : Stmt := inClass (top 18) 7
abbrev s_Order_meet_of : Stmt := inClass (top 18) 8
abbrev s_Order_join_all : Stmt := inClass (top 18) 9
abbrev s_Order_meet_all : Stmt := inClass (top 18) 10
abbrev s_Order_covers : Stmt := inClass (top 18) 11
abbrev s_Order_least : Stmt := inClass (top 18) 12
abbrev s_Order_greatest : Stmt := inClass (top 18) 13
abbrev s_Order_height : Stmt := inClass (top 18) 14
abbrev s_Order___len__ : Stmt := inClass (top 18) 15
abbrev s_Order___contains__ : Stmt := inClass (top 18) 16
abbrev s_Order___iter__ : Stmt := inClass (top 18) 17
abbrev s_Order___eq__ : Stmt := inClass (top 18) 18
abbrev s_Order___mul__ : Stmt := inClass (top 18) 19
abbrev s_Order___add__ : Stmt := inClass (top 18) 20
abbrev s_Order___invert__ : Stmt := inClass (top 18) 21
abbrev s__law_pot : Stmt := top 20
abbrev s__law_draw : Stmt := top 21
abbrev s__law_masks : Stmt := top 22
abbrev s__law_under : Stmt := top 23
abbrev s__law_covers : Stmt := top 24
abbrev s__law_pairs_given : Stmt := top 25
abbrev s__law_below_kept : Stmt := top 26
abbrev s_law : Stmt := top 27
def d_closure : He.DefD := ⟨("closure", none), "closure", "closure", defArgs s_closure, defBody s_closure, defScope s_closure, [], []⟩
def d_turned : He.DefD := ⟨("turned", none), "turned", "turned", defArgs s_turned, defBody s_turned, defScope s_turned, [], []⟩
def d_least_above : He.DefD := ⟨("least_above", none), "least_above", "least_above", defArgs s_least_above, defBody s_least_above, defScope s_least_above, [], []⟩
def d_bounds_table : He.DefD := ⟨("bounds_table", none), "bounds_table", "bounds_table", defArgs s_bounds_table, defBody s_bounds_table, defScope s_bounds_table, [], []⟩
def d_first_ring : He.DefD := ⟨("first_ring", none), "first_ring", "first_ring", defArgs s_first_ring, defBody s_first_ring, defScope s_first_ring, [], []⟩
def d_first_lack : He.DefD := ⟨("first_lack", none), "first_lack", "first_lack", defArgs s_first_lack, defBody s_first_lack, defScope s_first_lack, [], []⟩
def d_longest : He.DefD := ⟨("longest", none), "longest", "longest", defArgs s_longest, defBody s_longest, defScope s_longest, [], []⟩
def d_neighbours : He.DefD := ⟨("neighbours", none), "neighbours", "neighbours", defArgs s_neighbours, defBody s_neighbours, defScope s_neighbours, [], []⟩
def d_Order___init__ : He.DefD := ⟨("Order", some "__init__"), "__init__", "Order.__init__", defArgs s_Order___init__, defBody s_Order___init__, defScope s_Order___init__, [], []⟩
def d_Order__require : He.DefD := ⟨("Order", some "_require"), "_require", "Order._require", defArgs s_Order__require, defBody s_Order__require, defScope s_Order__require, [], []⟩
def d_Order_below : He.DefD := ⟨("Order", some "below"), "below", "Order.below", defArgs s_Order_below, defBody s_Order_below, defScope s_Order_below, [], []⟩
def d__law_pot : He.DefD := ⟨("_law_pot", none), "_law_pot", "_law_pot", defArgs s__law_pot, defBody s__law_pot, defScope s__law_pot, [], []⟩
def d__law_draw : He.DefD := ⟨("_law_draw", none), "_law_draw", "_law_draw", defArgs s__law_draw, defBody s__law_draw, defScope s__law_draw, [], []⟩
def d__law_masks : He.DefD := ⟨("_law_masks", none), "_law_masks", "_law_masks", defArgs s__law_masks, defBody s__law_masks, defScope s__law_masks, [], []⟩
def d__law_under : He.DefD := ⟨("_law_under", none), "_law_under", "_law_under", defArgs s__law_under, defBody s__law_under, defScope s__law_under, [], []⟩
def d__law_covers : He.DefD := ⟨("_law_covers", none), "_law_covers", "_law_covers", defArgs s__law_covers, defBody s__law_covers, defScope s__law_covers, [], []⟩
def d__law_pairs_given : He.DefD := ⟨("_law_pairs_given", none), "_law_pairs_given", "_law_pairs_given", defArgs s__law_pairs_given, defBody s__law_pairs_given, defScope s__law_pairs_given, [], []⟩
def d__law_below_kept : He.DefD := ⟨("_law_below_kept", none), "_law_below_kept", "_law_below_kept", defArgs s__law_below_kept, defBody s__law_below_kept, defScope s__law_below_kept, [], []⟩
def d_law : He.DefD := ⟨("law", none), "law", "law", defArgs s_law, defBody s_law, defScope s_law, [], []⟩
def fn : List He.DefD := [d_closure, d_turned, d_least_above, d_bounds_table, d_first_ring, d_first_lack, d_longest, d_neighbours, d_Order___init__, d_Order__require, d_Order_below, d__law_pot, d__law_draw, d__law_masks, d__law_under, d__law_covers, d__law_pairs_given, d__law_below_kept, d_law]
def fa : List He.Fa := [.glo "_wall", .glo "AskedError", .glo "BadSize", .glo "NotElement", .glo "Ring", .glo "NoJoin", .glo "NoMeet", .glo "closure", .glo "turned", .glo "least_above", .glo "bounds_table", .glo "first_ring", .glo "first_lack", .glo "longest", .glo "neighbours", .glo "Order", .glo "_law_pot", .glo "_law_draw", .glo "_law_masks", .glo "_law_under", .glo "_law_covers", .glo "_law_pairs_given", .glo "_law_below_kept", .glo "law", .free "range", .free "len", .free "max", .free "list", .free "min", .free "abs", .free "int", .free "sorted", .free "bool", .free "isinstance", .free "tuple", .cls "Order", .noat "Order" "_above", .noat "Order" "_joins", .noat "Order" "_meets", .noat "Order" "_members", .noat "Order" "_height", .meth "Order" "_require", .meth "Order" "below", .mkr "Order"]
def ex : List (PySem.W.Frag → Bool) := [fun K => He.conB K "Order" "MOST" (.int 12)]
abbrev Tx (K : PySem.W.Frag) (mg : Str → Option Value) : Prop := TxE fa fn ex K mg
structure m_Order where
  f_above : (List (List Bool))
  f_joins : (List (List (Option Int)))
  f_meets : (List (List (Option Int)))
  f_members : (List Int)
  f_height : Int
abbrev ns_Order : List Str := ["_above", "_joins", "_meets", "_members", "_height"]
def fl_Order (K : PySem.W.Frag) (o : m_Order) : List Pd := [pd (rL (rL rB)) o.f_above, pd (rL (rL (rO rI))) o.f_joins, pd (rL (rL (rO rI))) o.f_meets, pd (rL rI) o.f_members, pd rI o.f_height]
abbrev r_Order (K : PySem.W.Frag) : Rep m_Order := rObj (He.ga K "Order") ns_Order (fl_Order K)
section
variable {P : Program} {w : World} {K : PySem.W.Frag} {mg : Str → Option Value} {base : Heap}
theorem fr_range (T : Tx K mg) : mg "range" = none := T.free 24 rfl
theorem fr_len (T : Tx K mg) : mg "len" = none := T.free 25 rfl
theorem fr_max (T : Tx K mg) : mg "max" = none := T.free 26 rfl
theorem fr_list (T : Tx K mg) : mg "list" = none := T.free 27 rfl
theorem fr_min (T : Tx K mg) : mg "min" = none := T.free 28 rfl
theorem fr_abs (T : Tx K mg) : mg "abs" = none := T.free 29 rfl
theorem fr_int (T : Tx K mg) : mg "int" = none := T.free 30 rfl
theorem fr_sorted (T : Tx K mg) : mg "sorted" = none := T.free 31 rfl
theorem fr_bool (T : Tx K mg) : mg "bool" = none := T.free 32 rfl
theorem fr_isinstance (T : Tx K mg) : mg "isinstance" = none := T.free 33 rfl
theorem fr_tuple (T : Tx K mg) : mg "tuple" = none := T.free 34 rfl
def m_closure_b1 (size0 : Int) (x34 : (Int × Int)) (s23 : (List Bool)) : Option (List Bool) :=
  (some true >>= fun a47 => (mulM x34.1 size0 >>= fun t46 => some (t46 + x34.2)) >>= fun i48 => setM s23 i48 a47 >>= fun cells_49 => some (cells_49))
def m_closure_b2 (size0 : Int) (x117 : Int) (s103 : (List (List Bool))) : Option (List (List Bool)) :=
  ((rngM 0 size0 >>= fun xs137 => mapS (fun x124 => (rngM 0 size0 >>= fun xs136 => mapS (fun x130 => (orO ((atI s103 x124 >>= fun t133 => atI t133 x130)) ((andO ((atI s103 x124 >>= fun t134 => atI t134 x117)) ((atI s103 x117 >>= fun t135 => atI t135 x130)))))) xs136)) xs137) >>= fun rows_138 => some (rows_138))
def m_closure (size0 : Int) (pairs0 : (List (Int × Int))) : Option (List (List Bool)) :=
  ((mulM size0 size0 >>= fun t8 => (rngM 0 t8 >>= fun xs7 => mapS (fun x4 => some false) xs7)) >>= fun cells_9 => (some pairs0 >>= fun xs18 => forS (m_closure_b1 size0) xs18 cells_9 >>= fun s23 => ((rngM 0 size0 >>= fun xs85 => mapS (fun x73 => (rngM 0 size0 >>= fun xs84 => mapS (fun x79 => (orO (some (x73 == x79)) (((mulM x73 size0 >>= fun t82 => some (t82 + x79)) >>= fun t83 => atI s23 t83)))) xs84)) xs85) >>= fun rows_86 => (some size0 >>= fun n96 => rngM 0 n96 >>= fun xs98 => forS (m_closure_b2 size0) xs98 rows_86 >>= fun s103 => (some s103 >>= fun a156 => some a156)))))
theorem sc_closure : FnScope ["size", "pairs", "cells", "rows", "m", "low", "high", "_", "a", "b"] ["size", "pairs"] (defScope s_closure) := ⟨rfl, rfl, rfl, by decide +kernel, rfl, by decide +kernel, by decide +kernel⟩
theorem ok_closure (T : Tx K mg) : Fk P w K mg base CX0 1 "closure" ["size", "pairs"] (PF (aC rI (aC (rL (rP rI rI)) aN)) (rL (rL rB)) (fun i => m_closure i.1 i.2.1)) := by
  obtain ⟨fd, F⟩ := T.def_ 0 rfl
  have nd := sc_closure.nd
  refine fk_mk T.toTx (x := "closure") (T.glo 7 rfl) F (fun _ _ _ _ _ _ us hl => match us, hl with | [_, _], _ => rfl) (F.ok sc_closure (fun vs H Q E h => ?_) (fun cdv A outer s H vs Q E hr h => ?_))
  · obtain ⟨G, ⟨size0, pairs0, ⟨⟩⟩, r, e0, ⟨vsize0, _, rfl, hsize0, vpairs0, _, rfl, hpairs0, rfl⟩, h, k⟩ := h
    rfl
  · obtain ⟨G, ⟨size0, pairs0, ⟨⟩⟩, r, e0, ⟨vsize0, _, rfl, hsize0, vpairs0, _, rfl, hpairs0, rfl⟩, h, k⟩ := h
    cases hsize0
    have w0 := Wo.start e0
    have h : m_closure size0 pairs0 = some r := h
    unfold m_closure at h
    refine ⟨_, PSs.nox (pss_cons (ps_set (i := 2) nd rfl (Or.inr rfl) (pe_lc (own := [("_", 7)]) (by rfl) nd (pi_range1 (by rfl) (fr_range T) (pa_cons (pe_op op_mul (pv 0) (pv 0)) pa_nil)) (blkOk_by (by kernel_rfl)) (fun _ _ _ _ _ => pg_name (i := 7) nd rfl (by first | exact Or.inl rfl | exact Or.inr rfl)) (fun _ _ _ _ _ => pts_nil) (fun _ _ _ _ _ => pe_bl))) (pss_cons (ps_for PassesOwn.never rfl (pi_list (pv 1)) (pg_tup (by rfl) (pgs_cons (pg_name (i := 5) nd rfl (by first | exact Or.inl rfl | exact Or.inr rfl)) (pgs_cons (pg_name (i := 6) nd rfl (by first | exact Or.inl rfl | exact Or.inr rfl)) pgs_nil))) (pss_cons (ps_asg pe_bl (pg_sub (pv 2) (pe_op op_add (pe_op op_mul (pv 5) (pv 0)) (pv 6)) set_list)) pss_nil)) (pss_cons (ps_set (i := 3) nd rfl (Or.inr rfl) (pe_lc (own := [("a", 8)]) (by rfl) nd (pi_range1 (by rfl) (fr_range T) (pa_cons (pv 0) pa_nil)) (blkOk_by (by kernel_rfl)) (fun _ _ _ _ _ => pg_name (i := 8) nd rfl (by first | exact Or.inl rfl | exact Or.inr rfl)) (fun _ _ _ _ _ => pts_nil) (fun _ _ _ _ _ => (pe_lc (own := [("b", 9)]) (by rfl) nd (pi_range1 (by rfl) (fr_range T) (pa_cons (pv 0) pa_nil)) (blkOk_by (by kernel_rfl)) (fun _ _ _ _ _ => pg_name (i := 9) nd rfl (by first | exact Or.inl rfl | exact Or.inr rfl)) (fun _ _ _ _ _ => pts_nil) (fun _ _ _ _ _ => (pe_or (pe_cmpR op_eq (pv 8) (pv 9) (nomark _)) (pe_one (pe_ix (r := rIxL K) ix_list (pv 2) (pe_op op_add (pe_op op_mul (pv 8) (pv 0)) (pv 9)) (fun _ _ => rfl))))))))) (pss_cons (ps_for PassesOwn.never rfl (pi_range1 (by rfl) (fr_range T) (pa_cons (pv 0) pa_nil)) (pg_name (i := 4) nd rfl (Or.inr rfl)) (pss_cons (ps_set (i := 3) nd rfl (Or.inr rfl) (pe_lc (own := [("a", 8)]) (by rfl) nd (pi_range1 (by rfl) (fr_range T) (pa_cons (pv 0) pa_nil)) (blkOk_by (by kernel_rfl)) (fun _ _ _ _ _ => pg_name (i := 8) nd rfl (by first | exact Or.inl rfl | exact Or.inr rfl)) (fun _ _ _ _ _ => pts_nil) (fun _ _ _ _ _ => (pe_lc (own := [("b", 9)]) (by rfl) nd (pi_range1 (by rfl) (fr_range T) (pa_cons (pv 0) pa_nil)) (blkOk_by (by kernel_rfl)) (fun _ _ _ _ _ => pg_name (i := 9) nd rfl (by first | exact Or.inl rfl | exact Or.inr rfl)) (fun _ _ _ _ _ => pts_nil) (fun _ _ _ _ _ => (pe_or (pe_ix (r := rIxL K) ix_list (pe_ix (r := rIxL K) ix_list (pv 3) (pv 8) (fun _ _ => rfl)) (pv 9) (fun _ _ => rfl)) (pe_one (pe_and (pe_ix (r := rIxL K) ix_list (pe_ix (r := rIxL K) ix_list (pv 3) (pv 8) (fun _ _ => rfl)) (pv 4) (fun _ _ => rfl)) (pe_one (pe_ix (r := rIxL K) ix_list (pe_ix (r := rIxL K) ix_list (pv 3) (pv 4) (fun _ _ => rfl)) (pv 9) (fun _ _ => rfl))))))))))) pss_nil)) (pss_cons (ps_ret (pv 3)) pss_nil))))), ?_⟩
    obtain ⟨cells_9, hx10, h⟩ := bindS h
    refine x_setL w0 (el_mapR (el_lcR (j := 7) (ea_cons (e_op rr_mul (e_var (R := rI) (x := size0) rfl rfl) (e_var (R := rI) (x := size0) rfl rfl)) ea_nil) (fun _ => rfl) (fun _ _ _ _ _ _ => et_yes) (fun x4 G5 W6 eG1 eW2 eX3 => e_bl))) (by first | exact hx10 | (simp only [Option.bind_eq_bind, Option.bind_some, Option.bind_assoc] at hx10 ⊢; exact hx10)) ?_
    intro p13 H11 G14 n15 w12 e16
    have h17 := Rep.mono _ e16 hpairs0
    obtain ⟨xs18, hx19, h⟩ := bindS h
    obtain ⟨t21, hx22, h⟩ := bindS h
    refine x_forL w12 (e_var (R := (rL (rP rI rI))) (x := pairs0) rfl h17) hx19 (fun i G' H' σ' => ∃ s23 : (List Bool), ∃ u24 : Option V, ∃ u25 : Option V, Wo G H [] G' H' [(p13, cL rB s23)] ∧ Evl.Ex G14 G' ∧ σ' = [some (V.int size0), some vpairs0, some (V.ref p13), none, none, u25, u24, none, none, none] ∧ forS (m_closure_b1 size0) (xs18.drop i) s23 = some t21) (fun _ _ _ _ ⟨_, _, _, w, _⟩ => w.ex) ?_ ?_ ?_
    · intro G' H' w' e'
      exact ⟨cells_9, (none), (none), w', e', rfl, hx22⟩
    · rintro G36 e37 i33 x34 v38 σ' G29 H32 hx35 e40 ⟨s23, u24, u25, w30, e31, rfl, hm27⟩ r39
      obtain ⟨q28, hb26, hm27⟩ := forS_at hx35 hm27
      have h41 := Rep.mono _ e31 h17
      refine g_pair (i := 5) (j := 6) r39 w30.ex ?_
      intro v42 v43 r44 r45
      cases r44
      cases r45
      unfold m_closure_b1 at hb26
      obtain ⟨a47, hx50, hb26⟩ := bindS hb26
      obtain ⟨i48, hx51, hb26⟩ := bindS hb26
      obtain ⟨cells_49, hx52, hb26⟩ := bindS hb26
      refine x_setIx (j := 0) w30 rfl rfl e_bl (by first | exact hx50 | (simp only [Option.bind_eq_bind, Option.bind_some, Option.bind_assoc] at hx50 ⊢; exact hx50)) (e_op rr_add (e_op rr_mul (e_var (R := rI) (x := x34.1) rfl rfl) (e_var (R := rI) (x := size0) rfl rfl)) (e_var (R := rI) (x := x34.2) rfl rfl)) (by first | exact hx51 | (simp only [Option.bind_eq_bind, Option.bind_some, Option.bind_assoc] at hx51 ⊢; exact hx51)) hx52 ?_
      intro H53 G54 w55 e56
      have h57 := Rep.mono _ e56 h41
      have w55 : Wo G H [] G54 H53 [(p13, cL rB cells_49)] := w55
      refine x_next ?_
      have hb26 : cells_49 = q28 := Option.some.inj hb26
      subst hb26
      exact ⟨G54, (e40.trans e56), cells_49, (some (V.int x34.2)), (some (V.int x34.1)), w55, (e31.trans e56), rfl, hm27⟩
    · rintro σ' G58 H61 e62 ⟨s23, u24, u25, w59, e60, rfl, hm27⟩
      have hm27 := forS_end hm27
      subst hm27
      have h64 := Rep.mono _ e60 h17
      obtain ⟨G65, w66, e67, h68⟩ := w59.freezeAt (i := 0) rfl n15
      have h69 := Rep.mono _ e67 h64
      have w66 : Wo G H [] G65 H61 [] := w66
      obtain ⟨rows_86, hx87, h⟩ := bindS h
      refine x_set w66 (EL.e (el_mapR (el_lcR (j := 8) (ea_cons (e_var (R := rI) (x := size0) rfl rfl) ea_nil) (fun _ => rfl) (fun _ _ _ _ _ _ => et_yes) (fun x73 G74 W75 eG70 eW71 eX72 => (EL.e (el_mapR (el_lcR (j := 9) (ea_cons (e_var (R := rI) (x := size0) rfl rfl) ea_nil) (fun _ => rfl) (fun _ _ _ _ _ _ => et_yes) (fun x79 G80 W81 eG76 eW77 eX78 => (e_orV (e_op rr_eqI (e_var (R := rI) (x := x73) rfl rfl) (e_var (R := rI) (x := x79) rfl rfl)) (e_op rr_ixL (e_var (R := (rL rB)) (x := s23) rfl (Rep.mono _ eG76 (Rep.mono _ eG70 h68))) (e_op rr_add (e_op rr_mul (e_var (R := rI) (x := x73) rfl rfl) (e_var (R := rI) (x := size0) rfl rfl)) (e_var (R := rI) (x := x79) rfl rfl)))))))))))) (by first | exact hx87 | (simp only [Option.bind_eq_bind, Option.bind_some, Option.bind_assoc] at hx87 ⊢; exact hx87)) ?_
      intro v90 H88 G91 w89 e92 h93
      have h94 := Rep.mono _ e92 h69
      have h95 := Rep.mono _ e92 h68
      obtain ⟨n96, hx97, h⟩ := bindS h
      obtain ⟨xs98, hx99, h⟩ := bindS h
      obtain ⟨t101, hx102, h⟩ := bindS h
      refine x_forR w89 (ea_cons (Sim.E.is (e_var (R := rI) (x := size0) rfl rfl) hx97) ea_nil) rfl hx99 (fun i G' H' σ' => ∃ s103 : (List (List Bool)), ∃ v104 : V, ∃ u106 : Option V, ∃ u107 : Option V, ∃ u108 : Option V, Wo G H [] G' H' [] ∧ Evl.Ex G91 G' ∧ σ' = [some (V.int size0), some vpairs0, some (V.ref p13), some v104, u108, u25, u24, none, u106, u107] ∧ (rL (rL rB)).r G' v104 s103 ∧ forS (m_closure_b2 size0) (xs98.drop i) s103 = some t101) ?_ ?_ ?_
      · intro G' H' w' e'
        exact ⟨rows_86, v90, (none), (none), (none), w', e', rfl, (Rep.mono _ e' h93), hx102⟩
      · rintro i116 x117 σ' G112 H115 hx118 ⟨s103, v104, u106, u107, u108, w113, e114, rfl, h105, hm110⟩
        obtain ⟨q111, hb109, hm110⟩ := forS_at hx118 hm110
        have h119 := Rep.mono _ e114 h94
        have h120 := Rep.mono _ e114 h95
        refine g_name ?_
        unfold m_closure_b2 at hb109
        obtain ⟨rows_138, hx139, hb109⟩ := bindS hb109
        refine x_set w113 (EL.e (el_mapR (el_lcR (j := 8) (ea_cons (e_var (R := rI) (x := size0) rfl rfl) ea_nil) (fun _ => rfl) (fun _ _ _ _ _ _ => et_yes) (fun x124 G125 W126 eG121 eW122 eX123 => (EL.e (el_mapR (el_lcR (j := 9) (ea_cons (e_var (R := rI) (x := size0) rfl rfl) ea_nil) (fun _ => rfl) (fun _ _ _ _ _ _ => et_yes) (fun x130 G131 W132 eG127 eW128 eX129 => (e_orV (e_op rr_ixL (e_op rr_ixL (e_var (R := (rL (rL rB))) (x := s103) rfl (Rep.mono _ eG127 (Rep.mono _ eG121 h105))) (e_var (R := rI) (x := x124) rfl rfl)) (e_var (R := rI) (x := x130) rfl rfl)) (e_andV (e_op rr_ixL (e_op rr_ixL (e_var (R := (rL (rL rB))) (x := s103) rfl (Rep.mono _ eG127 (Rep.mono _ eG121 h105))) (e_var (R := rI) (x := x124) rfl rfl)) (e_var (R := rI) (x := x117) rfl rfl)) (e_op rr_ixL (e_op rr_ixL (e_var (R := (rL (rL rB))) (x := s103) rfl (Rep.mono _ eG127 (Rep.mono _ eG121 h105))) (e_var (R := rI) (x := x117) rfl rfl)) (e_var (R := rI) (x := x130) rfl rfl)))))))))))) (by first | exact hx139 | (simp only [Option.bind_eq_bind, Option.bind_some, Option.bind_assoc] at hx139 ⊢; exact hx139)) ?_
        intro v142 H140 G143 w141 e144 h145
        have h146 := Rep.mono _ e144 h119
        have h147 := Rep.mono _ e144 h120
        have h148 := Rep.mono _ e144 h105
        refine x_next ?_
        have hb109 : rows_138 = q111 := Option.some.inj hb109
        subst hb109
        exact ⟨G143, rows_138, v142, (u106), (u107), (some (V.int x117)), w141, (e114.trans e144), rfl, h145, hm110⟩
      · rintro σ' G149 H152 ⟨s103, v104, u106, u107, u108, w150, e151, rfl, h105, hm110⟩
        have hm110 := forS_end hm110
        subst hm110
        have h154 := Rep.mono _ e151 h94
        have h155 := Rep.mono _ e151 h95
        obtain ⟨a156, hx157, h⟩ := bindS h
        have h : a156 = r := Option.some.inj h
        subst h
        exact x_ret w150 (e_var (R := (rL (rL rB))) (x := s103) rfl h105) hx157 (fun v9 H9 G9 w9 e9 r9 => k v9 H9 G9 w9.upE r9)
def m_closure_T_b1 (size0 : Int) (x191 : (Int × Int)) (s180 : (List Bool)) : Option (List Bool) :=
  (some true >>= fun a204 => (mulM x191.1 size0 >>= fun t203 => some (t203 + x191.2)) >>= fun i205 => setM s180 i205 a204 >>= fun cells_206 => some (cells_206))
def m_closure_T_b2 (size0 : Int) (x274 : Int) (s260 : (List (List Bool))) : Option (List (List Bool)) :=
  ((rngM 0 size0 >>= fun xs294 => mapS (fun x281 => (rngM 0 size0 >>= fun xs293 => mapS (fun x287 => (orO ((atI s260 x281 >>= fun t290 => atI t290 x287)) ((andO ((atI s260 x281 >>= fun t291 => atI t291 x274)) ((atI s260 x274 >>= fun t292 => atI t292 x287)))))) xs293)) xs294) >>= fun rows_295 => some (rows_295))
def m_closure_T (size0 : Int) (pairs0 : (List (Int × Int))) : Option (List (List Bool)) :=
  ((mulM size0 size0 >>= fun t165 => (rngM 0 t165 >>= fun xs164 => mapS (fun x161 => some false) xs164)) >>= fun cells_166 => (some pairs0 >>= fun xs175 => forS (m_closure_T_b1 size0) xs175 cells_166 >>= fun s180 => ((rngM 0 size0 >>= fun xs242 => mapS (fun x230 => (rngM 0 size0 >>= fun xs241 => mapS (fun x236 => (orO (some (x230 == x236)) (((mulM x230 size0 >>= fun t239 => some (t239 + x236)) >>= fun t240 => atI s180 t240)))) xs241)) xs242) >>= fun rows_243 => (some size0 >>= fun n253 => rngM 0 n253 >>= fun xs255 => forS (m_closure_T_b2 size0) xs255 rows_243 >>= fun s260 => (some s260 >>= fun a313 => some a313)))))
theorem sc_closure_T : FnScope ["size", "pairs", "cells", "rows", "m", "low", "high", "_", "a", "b"] ["size", "pairs"] (defScope s_closure) := ⟨rfl, rfl, rfl, by decide +kernel, rfl, by decide +kernel, by decide +kernel⟩
theorem ok_closure_T (T : Tx K mg) : Fk P w K mg base CX0 1 "closure" ["size", "pairs"] (PF (aC rI (aC (rT (rP rI rI)) aN)) (rL (rL rB)) (fun i => m_closure_T i.1 i.2.1)) := by
  obtain ⟨fd, F⟩ := T.def_ 0 rfl
  have nd := sc_closure_T.nd
  refine fk_mk T.toTx (x := "closure") (T.glo 7 rfl) F (fun _ _ _ _ _ _ us hl => match us, hl with | [_, _], _ => rfl) (F.ok sc_closure_T (fun vs H Q E h => ?_) (fun cdv A outer s H vs Q E hr h => ?_))
  · obtain ⟨G, ⟨size0, pairs0, ⟨⟩⟩, r, e0, ⟨vsize0, _, rfl, hsize0, vpairs0, _, rfl, hpairs0, rfl⟩, h, k⟩ := h
    rfl
  · obtain ⟨G, ⟨size0, pairs0, ⟨⟩⟩, r, e0, ⟨vsize0, _, rfl, hsize0, vpairs0, _, rfl, hpairs0, rfl⟩, h, k⟩ := h
    cases hsize0
    have w0 := Wo.start e0
    have h : m_closure_T size0 pairs0 = some r := h
    unfold m_closure_T at h
    refine ⟨_, PSs.nox (pss_cons (ps_set (i := 2) nd rfl (Or.inr rfl) (pe_lc (own := [("_", 7)]) (by rfl) nd (pi_range1 (by rfl) (fr_range T) (pa_cons (pe_op op_mul (pv 0) (pv 0)) pa_nil)) (blkOk_by (by kernel_rfl)) (fun _ _ _ _ _ => pg_name (i := 7) nd rfl (by first | exact Or.inl rfl | exact Or.inr rfl)) (fun _ _ _ _ _ => pts_nil) (fun _ _ _ _ _ => pe_bl))) (pss_cons (ps_for PassesOwn.never rfl (pi_tup (pv 1)) (pg_tup (by rfl) (pgs_cons (pg_name (i := 5) nd rfl (by first | exact Or.inl rfl | exact Or.inr rfl)) (pgs_cons (pg_name (i := 6) nd rfl (by first | exact Or.inl rfl | exact Or.inr rfl)) pgs_nil))) (pss_cons (ps_asg pe_bl (pg_sub (pv 2) (pe_op op_add (pe_op op_mul (pv 5) (pv 0)) (pv 6)) set_list)) pss_nil)) (pss_cons (ps_set (i := 3) nd rfl (Or.inr rfl) (pe_lc (own := [("a", 8)]) (by rfl) nd (pi_range1 (by rfl) (fr_range T) (pa_cons (pv 0) pa_nil)) (blkOk_by (by kernel_rfl)) (fun _ _ _ _ _ => pg_name (i := 8) nd rfl (by first | exact Or.inl rfl | exact Or.inr rfl)) (fun _ _ _ _ _ => pts_nil) (fun _ _ _ _ _ => (pe_lc (own := [("b", 9)]) (by rfl) nd (pi_range1 (by rfl) (fr_range T) (pa_cons (pv 0) pa_nil)) (blkOk_by (by kernel_rfl)) (fun _ _ _ _ _ => pg_name (i := 9) nd rfl (by first | exact Or.inl rfl | exact Or.inr rfl)) (fun _ _ _ _ _ => pts_nil) (fun _ _ _ _ _ => (pe_or (pe_cmpR op_eq (pv 8) (pv 9) (nomark _)) (pe_one (pe_ix (r := rIxL K) ix_list (pv 2) (pe_op op_add (pe_op op_mul (pv 8) (pv 0)) (pv 9)) (fun _ _ => rfl))))))))) (pss_cons (ps_for PassesOwn.never rfl (pi_range1 (by rfl) (fr_range T) (pa_cons (pv 0) pa_nil)) (pg_name (i := 4) nd rfl (Or.inr rfl)) (pss_cons (ps_set (i := 3) nd rfl (Or.inr rfl) (pe_lc (own := [("a", 8)]) (by rfl) nd (pi_range1 (by rfl) (fr_range T) (pa_cons (pv 0) pa_nil)) (blkOk_by (by kernel_rfl)) (fun _ _ _ _ _ => pg_name (i := 8) nd rfl (by first | exact Or.inl rfl | exact Or.inr rfl)) (fun _ _ _ _ _ => pts_nil) (fun _ _ _ _ _ => (pe_lc (own := [("b", 9)]) (by rfl) nd (pi_range1 (by rfl) (fr_range T) (pa_cons (pv 0) pa_nil)) (blkOk_by (by kernel_rfl)) (fun _ _ _ _ _ => pg_name (i := 9) nd rfl (by first | exact Or.inl rfl | exact Or.inr rfl)) (fun _ _ _ _ _ => pts_nil) (fun _ _ _ _ _ => (pe_or (pe_ix (r := rIxL K) ix_list (pe_ix (r := rIxL K) ix_list (pv 3) (pv 8) (fun _ _ => rfl)) (pv 9) (fun _ _ => rfl)) (pe_one (pe_and (pe_ix (r := rIxL K) ix_list (pe_ix (r := rIxL K) ix_list (pv 3) (pv 8) (fun _ _ => rfl)) (pv 4) (fun _ _ => rfl)) (pe_one (pe_ix (r := rIxL K) ix_list (pe_ix (r := rIxL K) ix_list (pv 3) (pv 4) (fun _ _ => rfl)) (pv 9) (fun _ _ => rfl))))))))))) pss_nil)) (pss_cons (ps_ret (pv 3)) pss_nil))))), ?_⟩
    obtain ⟨cells_166, hx167, h⟩ := bindS h
    refine x_setL w0 (el_mapR (el_lcR (j := 7) (ea_cons (e_op rr_mul (e_var (R := rI) (x := size0) rfl rfl) (e_var (R := rI) (x := size0) rfl rfl)) ea_nil) (fun _ => rfl) (fun _ _ _ _ _ _ => et_yes) (fun x161 G162 W163 eG158 eW159 eX160 => e_bl))) (by first | exact hx167 | (simp only [Option.bind_eq_bind, Option.bind_some, Option.bind_assoc] at hx167 ⊢; exact hx167)) ?_
    intro p170 H168 G171 n172 w169 e173
    have h174 := Rep.mono _ e173 hpairs0
    obtain ⟨xs175, hx176, h⟩ := bindS h
    obtain ⟨t178, hx179, h⟩ := bindS h
    refine x_forT w169 (e_var (R := (rT (rP rI rI))) (x := pairs0) rfl h174) hx176 (fun i G' H' σ' => ∃ s180 : (List Bool), ∃ u181 : Option V, ∃ u182 : Option V, Wo G H [] G' H' [(p170, cL rB s180)] ∧ Evl.Ex G171 G' ∧ σ' = [some (V.int size0), some vpairs0, some (V.ref p170), none, none, u182, u181, none, none, none] ∧ forS (m_closure_T_b1 size0) (xs175.drop i) s180 = some t178) (fun _ _ _ _ ⟨_, _, _, w, _⟩ => w.ex) ?_ ?_ ?_
    · intro G' H' w' e'
      exact ⟨cells_166, (none), (none), w', e', rfl, hx179⟩
    · rintro G193 e194 i190 x191 v195 σ' G186 H189 hx192 e197 ⟨s180, u181, u182, w187, e188, rfl, hm184⟩ r196
      obtain ⟨q185, hb183, hm184⟩ := forS_at hx192 hm184
      have h198 := Rep.mono _ e188 h174
      refine g_pair (i := 5) (j := 6) r196 w187.ex ?_
      intro v199 v200 r201 r202
      cases r201
      cases r202
      unfold m_closure_T_b1 at hb183
      obtain ⟨a204, hx207, hb183⟩ := bindS hb183
      obtain ⟨i205, hx208, hb183⟩ := bindS hb183
      obtain ⟨cells_206, hx209, hb183⟩ := bindS hb183
      refine x_setIx (j := 0) w187 rfl rfl e_bl (by first | exact hx207 | (simp only [Option.bind_eq_bind, Option.bind_some, Option.bind_assoc] at hx207 ⊢; exact hx207)) (e_op rr_add (e_op rr_mul (e_var (R := rI) (x := x191.1) rfl rfl) (e_var (R := rI) (x := size0) rfl rfl)) (e_var (R := rI) (x := x191.2) rfl rfl)) (by first | exact hx208 | (simp only [Option.bind_eq_bind, Option.bind_some, Option.bind_assoc] at hx208 ⊢; exact hx208)) hx209 ?_
      intro H210 G211 w212 e213
      have h214 := Rep.mono _ e213 h198
      have w212 : Wo G H [] G211 H210 [(p170, cL rB cells_206)] := w212
      refine x_next ?_
      have hb183 : cells_206 = q185 := Option.some.inj hb183
      subst hb183
      exact ⟨G211, (e197.trans e213), cells_206, (some (V.int x191.2)), (some (V.int x191.1)), w212, (e188.trans e213), rfl, hm184⟩
    · rintro σ' G215 H218 e219 ⟨s180, u181, u182, w216, e217, rfl, hm184⟩
      have hm184 := forS_end hm184
      subst hm184
      have h221 := Rep.mono _ e217 h174
      obtain ⟨G222, w223, e224, h225⟩ := w216.freezeAt (i := 0) rfl n172
      have h226 := Rep.mono _ e224 h221
      have w223 : Wo G H [] G222 H218 [] := w223
      obtain ⟨rows_243, hx244, h⟩ := bindS h
      refine x_set w223 (EL.e (el_mapR (el_lcR (j := 8) (ea_cons (e_var (R := rI) (x := size0) rfl rfl) ea_nil) (fun _ => rfl) (fun _ _ _ _ _ _ => et_yes) (fun x230 G231 W232 eG227 eW228 eX229 => (EL.e (el_mapR (el_lcR (j := 9) (ea_cons (e_var (R := rI) (x := size0) rfl rfl) ea_nil) (fun _ => rfl) (fun _ _ _ _ _ _ => et_yes) (fun x236 G237 W238 eG233 eW234 eX235 => (e_orV (e_op rr_eqI (e_var (R := rI) (x := x230) rfl rfl) (e_var (R := rI) (x := x236) rfl rfl)) (e_op rr_ixL (e_var (R := (rL rB)) (x := s180) rfl (Rep.mono _ eG233 (Rep.mono _ eG227 h225))) (e_op rr_add (e_op rr_mul (e_var (R := rI) (x := x230) rfl rfl) (e_var (R := rI) (x := size0) rfl rfl)) (e_var (R := rI) (x := x236) rfl rfl)))))))))))) (by first | exact hx244 | (simp only [Option.bind_eq_bind, Option.bind_some, Option.bind_assoc] at hx244 ⊢; exact hx244)) ?_
      intro v247 H245 G248 w246 e249 h250
      have h251 := Rep.mono _ e249 h226
      have h252 := Rep.mono _ e249 h225
      obtain ⟨n253, hx254, h⟩ := bindS h
      obtain ⟨xs255, hx256, h⟩ := bindS h
      obtain ⟨t258, hx259, h⟩ := bindS h
      refine x_forR w246 (ea_cons (Sim.E.is (e_var (R := rI) (x := size0) rfl rfl) hx254) ea_nil) rfl hx256 (fun i G' H' σ' => ∃ s260 : (List (List Bool)), ∃ v261 : V, ∃ u263 : Option V, ∃ u264 : Option V, ∃ u265 : Option V, Wo G H [] G' H' [] ∧ Evl.Ex G248 G' ∧ σ' = [some (V.int size0), some vpairs0, some (V.ref p170), some v261, u265, u182, u181, none, u263, u264] ∧ (rL (rL rB)).r G' v261 s260 ∧ forS (m_closure_T_b2 size0) (xs255.drop i) s260 = some t258) ?_ ?_ ?_
      · intro G' H' w' e'
        exact ⟨rows_243, v247, (none), (none), (none), w', e', rfl, (Rep.mono _ e' h250), hx259⟩
      · rintro i273 x274 σ' G269 H272 hx275 ⟨s260, v261, u263, u264, u265, w270, e271, rfl, h262, hm267⟩
        obtain ⟨q268, hb266, hm267⟩ := forS_at hx275 hm267
        have h276 := Rep.mono _ e271 h251
        have h277 := Rep.mono _ e271 h252
        refine g_name ?_
        unfold m_closure_T_b2 at hb266
        obtain ⟨rows_295, hx296, hb266⟩ := bindS hb266
        refine x_set w270 (EL.e (el_mapR (el_lcR (j := 8) (ea_cons (e_var (R := rI) (x := size0) rfl rfl) ea_nil) (fun _ => rfl) (fun _ _ _ _ _ _ => et_yes) (fun x281 G282 W283 eG278 eW279 eX280 => (EL.e (el_mapR (el_lcR (j := 9) (ea_cons (e_var (R := rI) (x := size0) rfl rfl) ea_nil) (fun _ => rfl) (fun _ _ _ _ _ _ => et_yes) (fun x287 G288 W289 eG284 eW285 eX286 => (e_orV (e_op rr_ixL (e_op rr_ixL (e_var (R := (rL (rL rB))) (x := s260) rfl (Rep.mono _ eG284 (Rep.mono _ eG278 h262))) (e_var (R := rI) (x := x281) rfl rfl)) (e_var (R := rI) (x := x287) rfl rfl)) (e_andV (e_op rr_ixL (e_op rr_ixL (e_var (R := (rL (rL rB))) (x := s260) rfl (Rep.mono _ eG284 (Rep.mono _ eG278 h262))) (e_var (R := rI) (x := x281) rfl rfl)) (e_var (R := rI) (x := x274) rfl rfl)) (e_op rr_ixL (e_op rr_ixL (e_var (R := (rL (rL rB))) (x := s260) rfl (Rep.mono _ eG284 (Rep.mono _ eG278 h262))) (e_var (R := rI) (x := x274) rfl rfl)) (e_var (R := rI) (x := x287) rfl rfl)))))))))))) (by first | exact hx296 | (simp only [Option.bind_eq_bind, Option.bind_some, Option.bind_assoc] at hx296 ⊢; exact hx296)) ?_
        intro v299 H297 G300 w298 e301 h302
        have h303 := Rep.mono _ e301 h276
        have h304 := Rep.mono _ e301 h277
        have h305 := Rep.mono _ e301 h262
        refine x_next ?_
        have hb266 : rows_295 = q268 := Option.some.inj hb266
        subst hb266
        exact ⟨G300, rows_295, v299, (u263), (u264), (some (V.int x274)), w298, (e271.trans e301), rfl, h302, hm267⟩
      · rintro σ' G306 H309 ⟨s260, v261, u263, u264, u265, w307, e308, rfl, h262, hm267⟩
        have hm267 := forS_end hm267
        subst hm267
        have h311 := Rep.mono _ e308 h251
        have h312 := Rep.mono _ e308 h252
        obtain ⟨a313, hx314, h⟩ := bindS h
        have h : a313 = r := Option.some.inj h
        subst h
        exact x_ret w307 (e_var (R := (rL (rL rB))) (x := s260) rfl h262) hx314 (fun v9 H9 G9 w9 e9 r9 => k v9 H9 G9 w9.upE r9)
def m_closure_C_b1 (size0 : Int) (x347 : (Int × Int)) (s336 : (List Bool)) : Option (List Bool) :=
  (some true >>= fun a356 => (mulM x347.1 size0 >>= fun t355 => some (t355 + x347.2)) >>= fun i357 => setM s336 i357 a356 >>= fun cells_358 => some (cells_358))
def m_closure_C_b2 (size0 : Int) (x421 : Int) (s407 : (List (List Bool))) : Option (List (List Bool)) :=
  ((rngM 0 size0 >>= fun xs440 => mapS (fun x427 => (rngM 0 size0 >>= fun xs439 => mapS (fun x433 => (orO ((atI s407 x427 >>= fun t436 => atI t436 x433)) ((andO ((atI s407 x427 >>= fun t437 => atI t437 x421)) ((atI s407 x421 >>= fun t438 => atI t438 x433)))))) xs439)) xs440) >>= fun rows_441 => some (rows_441))
def m_closure_C (size0 : Int) (pairs0 : (List (Int × Int))) : Option (List (List Bool)) :=
  ((mulM size0 size0 >>= fun t322 => (rngM 0 t322 >>= fun xs321 => mapS (fun x318 => some false) xs321)) >>= fun cells_323 => ( forS (m_closure_C_b1 size0) pairs0 cells_323 >>= fun s336 => ((rngM 0 size0 >>= fun xs390 => mapS (fun x378 => (rngM 0 size0 >>= fun xs389 => mapS (fun x384 => (orO (some (x378 == x384)) (((mulM x378 size0 >>= fun t387 => some (t387 + x384)) >>= fun t388 => atI s336 t388)))) xs389)) xs390) >>= fun rows_391 => (some size0 >>= fun n400 => rngM 0 n400 >>= fun xs402 => forS (m_closure_C_b2 size0) xs402 rows_391 >>= fun s407 => (some s407 >>= fun a457 => some a457)))))
theorem sc_closure_C : FnScope ["size", "pairs", "cells", "rows", "m", "low", "high", "_", "a", "b"] ["size", "pairs"] (defScope s_closure) := ⟨rfl, rfl, rfl, by decide +kernel, rfl, by decide +kernel, by decide +kernel⟩
theorem ok_closure_C (T : Tx K mg) : Fk P w K mg base CX0 1 "closure" ["size", "pairs"] (PB (aC rI (aC rA aN)) (fun i => i.2.1) (rP rI rI) (rL (rL rB)) (fun ys i => m_closure_C i.1 ys)) := by
  obtain ⟨fd, F⟩ := T.def_ 0 rfl
  have nd := sc_closure_C.nd
  refine fk_mk T.toTx (x := "closure") (T.glo 7 rfl) F (fun _ _ _ _ _ _ us hl => match us, hl with | [_, _], _ => rfl) (F.ok sc_closure_C (fun vs H Q E h => ?_) (fun cdv A outer s H vs Q E hr h => ?_))
  · obtain ⟨G, ⟨size0, lb, ⟨⟩⟩, pairs0, r, e0, ⟨vsize0, _, rfl, hsize0, vpairs0, _, rfl, hpairs0, rfl⟩, L0, h, k⟩ := h
    rfl
  · obtain ⟨G, ⟨size0, lb, ⟨⟩⟩, pairs0, r, e0, ⟨vsize0, _, rfl, hsize0, vpairs0, _, rfl, hpairs0, rfl⟩, L0, h, k⟩ := h
    cases hsize0
    cases hpairs0
    have w0 := Wo.start e0
    have hl : lb ∉ ([] : List Addr) := List.not_mem_nil
    have L0 : Lent G H lb _ _ := L0
    have h : m_closure_C size0 pairs0 = some r := h
    unfold m_closure_C at h
    refine ⟨_, PSs.nox (pss_cons (ps_set (i := 2) nd rfl (Or.inr rfl) (pe_lc (own := [("_", 7)]) (by rfl) nd (pi_range1 (by rfl) (fr_range T) (pa_cons (pe_op op_mul (pv 0) (pv 0)) pa_nil)) (blkOk_by (by kernel_rfl)) (fun _ _ _ _ _ => pg_name (i := 7) nd rfl (by first | exact Or.inl rfl | exact Or.inr rfl)) (fun _ _ _ _ _ => pts_nil) (fun _ _ _ _ _ => pe_bl))) (pss_cons (ps_for PassesOwn.never rfl (show L2.PI _ _ _ (iList K _) from pi_list (pv 1)) (pg_tup (by rfl) (pgs_cons (pg_name (i := 5) nd rfl (by first | exact Or.inl rfl | exact Or.inr rfl)) (pgs_cons (pg_name (i := 6) nd rfl (by first | exact Or.inl rfl | exact Or.inr rfl)) pgs_nil))) (pss_cons (ps_asg pe_bl (pg_sub (pv 2) (pe_op op_add (pe_op op_mul (pv 5) (pv 0)) (pv 6)) set_list)) pss_nil)) (pss_cons (ps_set (i := 3) nd rfl (Or.inr rfl) (pe_lc (own := [("a", 8)]) (by rfl) nd (pi_range1 (by rfl) (fr_range T) (pa_cons (pv 0) pa_nil)) (blkOk_by (by kernel_rfl)) (fun _ _ _ _ _ => pg_name (i := 8) nd rfl (by first | exact Or.inl rfl | exact Or.inr rfl)) (fun _ _ _ _ _ => pts_nil) (fun _ _ _ _ _ => (pe_lc (own := [("b", 9)]) (by rfl) nd (pi_range1 (by rfl) (fr_range T) (pa_cons (pv 0) pa_nil)) (blkOk_by (by kernel_rfl)) (fun _ _ _ _ _ => pg_name (i := 9) nd rfl (by first | exact Or.inl rfl | exact Or.inr rfl)) (fun _ _ _ _ _ => pts_nil) (fun _ _ _ _ _ => (pe_or (pe_cmpR op_eq (pv 8) (pv 9) (nomark _)) (pe_one (pe_ix (r := rIxL K) ix_list (pv 2) (pe_op op_add (pe_op op_mul (pv 8) (pv 0)) (pv 9)) (fun _ _ => rfl))))))))) (pss_cons (ps_for PassesOwn.never rfl (pi_range1 (by rfl) (fr_range T) (pa_cons (pv 0) pa_nil)) (pg_name (i := 4) nd rfl (Or.inr rfl)) (pss_cons (ps_set (i := 3) nd rfl (Or.inr rfl) (pe_lc (own := [("a", 8)]) (by rfl) nd (pi_range1 (by rfl) (fr_range T) (pa_cons (pv 0) pa_nil)) (blkOk_by (by kernel_rfl)) (fun _ _ _ _ _ => pg_name (i := 8) nd rfl (by first | exact Or.inl rfl | exact Or.inr rfl)) (fun _ _ _ _ _ => pts_nil) (fun _ _ _ _ _ => (pe_lc (own := [("b", 9)]) (by rfl) nd (pi_range1 (by rfl) (fr_range T) (pa_cons (pv 0) pa_nil)) (blkOk_by (by kernel_rfl)) (fun _ _ _ _ _ => pg_name (i := 9) nd rfl (by first | exact Or.inl rfl | exact Or.inr rfl)) (fun _ _ _ _ _ => pts_nil) (fun _ _ _ _ _ => (pe_or (pe_ix (r := rIxL K) ix_list (pe_ix (r := rIxL K) ix_list (pv 3) (pv 8) (fun _ _ => rfl)) (pv 9) (fun _ _ => rfl)) (pe_one (pe_and (pe_ix (r := rIxL K) ix_list (pe_ix (r := rIxL K) ix_list (pv 3) (pv 8) (fun _ _ => rfl)) (pv 4) (fun _ _ => rfl)) (pe_one (pe_ix (r := rIxL K) ix_list (pe_ix (r := rIxL K) ix_list (pv 3) (pv 4) (fun _ _ => rfl)) (pv 9) (fun _ _ => rfl))))))))))) pss_nil)) (pss_cons (ps_ret (pv 3)) pss_nil))))), ?_⟩
    obtain ⟨cells_323, hx324, h⟩ := bindS h
    refine x_setL w0 (el_mapR (el_lcR (j := 7) (ea_cons (e_op rr_mul (e_var (R := rI) (x := size0) rfl rfl) (e_var (R := rI) (x := size0) rfl rfl)) ea_nil) (fun _ => rfl) (fun _ _ _ _ _ _ => et_yes) (fun x318 G319 W320 eG315 eW316 eX317 => e_bl))) (by first | exact hx324 | (simp only [Option.bind_eq_bind, Option.bind_some, Option.bind_assoc] at hx324 ⊢; exact hx324)) ?_
    intro p327 H325 G328 n329 w326 e330
    obtain ⟨t334, hx335, h⟩ := bindS h
    refine x_forN w326 L0 hl rfl (fun i G' H' σ' => ∃ s336 : (List Bool), ∃ u337 : Option V, ∃ u338 : Option V, Wo G H [] G' H' [(p327, cL rB s336)] ∧ Evl.Ex G328 G' ∧ σ' = [some (V.int size0), some (V.ref lb), some (V.ref p327), none, none, u338, u337, none, none, none] ∧ forS (m_closure_C_b1 size0) (pairs0.drop i) s336 = some t334) (fun _ _ _ _ ⟨_, _, _, w, _⟩ => ⟨_, w⟩) ?_ ?_ ?_
    · exact ⟨cells_323, (none), (none), w326, (Evl.Ex.refl _), rfl, hx335⟩
    · rintro i346 x347 v349 σ' G342 H345 hx348 ⟨s336, u337, u338, w343, e344, rfl, hm340⟩ r350
      obtain ⟨q341, hb339, hm340⟩ := forS_at hx348 hm340
      refine g_pair (i := 5) (j := 6) r350 w343.ex ?_
      intro v351 v352 r353 r354
      cases r353
      cases r354
      unfold m_closure_C_b1 at hb339
      obtain ⟨a356, hx359, hb339⟩ := bindS hb339
      obtain ⟨i357, hx360, hb339⟩ := bindS hb339
      obtain ⟨cells_358, hx361, hb339⟩ := bindS hb339
      refine x_setIx (j := 0) w343 rfl rfl e_bl (by first | exact hx359 | (simp only [Option.bind_eq_bind, Option.bind_some, Option.bind_assoc] at hx359 ⊢; exact hx359)) (e_op rr_add (e_op rr_mul (e_var (R := rI) (x := x347.1) rfl rfl) (e_var (R := rI) (x := size0) rfl rfl)) (e_var (R := rI) (x := x347.2) rfl rfl)) (by first | exact hx360 | (simp only [Option.bind_eq_bind, Option.bind_some, Option.bind_assoc] at hx360 ⊢; exact hx360)) hx361 ?_
      intro H362 G363 w364 e365
      have w364 : Wo G H [] G363 H362 [(p327, cL rB cells_358)] := w364
      refine x_next ?_
      have hb339 : cells_358 = q341 := Option.some.inj hb339
      subst hb339
      exact ⟨G363, cells_358, (some (V.int x347.2)), (some (V.int x347.1)), w364, (e344.trans e365), rfl, hm340⟩
    · rintro σ' G366 H369 ⟨s336, u337, u338, w367, e368, rfl, hm340⟩
      have hm340 := forS_end hm340
      subst hm340
      obtain ⟨G371, w372, e373, h374⟩ := w367.freezeAt (i := 0) rfl n329
      have w372 : Wo G H [] G371 H369 [] := w372
      obtain ⟨rows_391, hx392, h⟩ := bindS h
      refine x_set w372 (EL.e (el_mapR (el_lcR (j := 8) (ea_cons (e_var (R := rI) (x := size0) rfl rfl) ea_nil) (fun _ => rfl) (fun _ _ _ _ _ _ => et_yes) (fun x378 G379 W380 eG375 eW376 eX377 => (EL.e (el_mapR (el_lcR (j := 9) (ea_cons (e_var (R := rI) (x := size0) rfl rfl) ea_nil) (fun _ => rfl) (fun _ _ _ _ _ _ => et_yes) (fun x384 G385 W386 eG381 eW382 eX383 => (e_orV (e_op rr_eqI (e_var (R := rI) (x := x378) rfl rfl) (e_var (R := rI) (x := x384) rfl rfl)) (e_op rr_ixL (e_var (R := (rL rB)) (x := s336) rfl (Rep.mono _ eG381 (Rep.mono _ eG375 h374))) (e_op rr_add (e_op rr_mul (e_var (R := rI) (x := x378) rfl rfl) (e_var (R := rI) (x := size0) rfl rfl)) (e_var (R := rI) (x := x384) rfl rfl)))))))))))) (by first | exact hx392 | (simp only [Option.bind_eq_bind, Option.bind_some, Option.bind_assoc] at hx392 ⊢; exact hx392)) ?_
      intro v395 H393 G396 w394 e397 h398
      have h399 := Rep.mono _ e397 h374
      obtain ⟨n400, hx401, h⟩ := bindS h
      obtain ⟨xs402, hx403, h⟩ := bindS h
      obtain ⟨t405, hx406, h⟩ := bindS h
      refine x_forR w394 (ea_cons (Sim.E.is (e_var (R := rI) (x := size0) rfl rfl) hx401) ea_nil) rfl hx403 (fun i G' H' σ' => ∃ s407 : (List (List Bool)), ∃ v408 : V, ∃ u410 : Option V, ∃ u411 : Option V, ∃ u412 : Option V, Wo G H [] G' H' [] ∧ Evl.Ex G396 G' ∧ σ' = [some (V.int size0), some (V.ref lb), some (V.ref p327), some v408, u412, u338, u337, none, u410, u411] ∧ (rL (rL rB)).r G' v408 s407 ∧ forS (m_closure_C_b2 size0) (xs402.drop i) s407 = some t405) ?_ ?_ ?_
      · intro G' H' w' e'
        exact ⟨rows_391, v395, (none), (none), (none), w', e', rfl, (Rep.mono _ e' h398), hx406⟩
      · rintro i420 x421 σ' G416 H419 hx422 ⟨s407, v408, u410, u411, u412, w417, e418, rfl, h409, hm414⟩
        obtain ⟨q415, hb413, hm414⟩ := forS_at hx422 hm414
        have h423 := Rep.mono _ e418 h399
        refine g_name ?_
        unfold m_closure_C_b2 at hb413
        obtain ⟨rows_441, hx442, hb413⟩ := bindS hb413
        refine x_set w417 (EL.e (el_mapR (el_lcR (j := 8) (ea_cons (e_var (R := rI) (x := size0) rfl rfl) ea_nil) (fun _ => rfl) (fun _ _ _ _ _ _ => et_yes) (fun x427 G428 W429 eG424 eW425 eX426 => (EL.e (el_mapR (el_lcR (j := 9) (ea_cons (e_var (R := rI) (x := size0) rfl rfl) ea_nil) (fun _ => rfl) (fun _ _ _ _ _ _ => et_yes) (fun x433 G434 W435 eG430 eW431 eX432 => (e_orV (e_op rr_ixL (e_op rr_ixL (e_var (R := (rL (rL rB))) (x := s407) rfl (Rep.mono _ eG430 (Rep.mono _ eG424 h409))) (e_var (R := rI) (x := x427) rfl rfl)) (e_var (R := rI) (x := x433) rfl rfl)) (e_andV (e_op rr_ixL (e_op rr_ixL (e_var (R := (rL (rL rB))) (x := s407) rfl (Rep.mono _ eG430 (Rep.mono _ eG424 h409))) (e_var (R := rI) (x := x427) rfl rfl)) (e_var (R := rI) (x := x421) rfl rfl)) (e_op rr_ixL (e_op rr_ixL (e_var (R := (rL (rL rB))) (x := s407) rfl (Rep.mono _ eG430 (Rep.mono _ eG424 h409))) (e_var (R := rI) (x := x421) rfl rfl)) (e_var (R := rI) (x := x433) rfl rfl)))))))))))) (by first | exact hx442 | (simp only [Option.bind_eq_bind, Option.bind_some, Option.bind_assoc] at hx442 ⊢; exact hx442)) ?_
        intro v445 H443 G446 w444 e447 h448
        have h449 := Rep.mono _ e447 h423
        have h450 := Rep.mono _ e447 h409
        refine x_next ?_
        have hb413 : rows_441 = q415 := Option.some.inj hb413
        subst hb413
        exact ⟨G446, rows_441, v445, (u410), (u411), (some (V.int x421)), w444, (e418.trans e447), rfl, h448, hm414⟩
      · rintro σ' G451 H454 ⟨s407, v408, u410, u411, u412, w452, e453, rfl, h409, hm414⟩
        have hm414 := forS_end hm414
        subst hm414
        have h456 := Rep.mono _ e453 h399
        obtain ⟨a457, hx458, h⟩ := bindS h
        have h : a457 = r := Option.some.inj h
        subst h
        exact x_ret w452 (e_var (R := (rL (rL rB))) (x := s407) rfl h409) hx458 (fun v9 H9 G9 w9 e9 r9 => k v9 H9 G9 w9.upE r9)
def m_turned (rows0 : (List (List Bool))) : Option (List (List Bool)) :=
  ((rngM 0 (rows0.length : Int) >>= fun xs473 => mapS (fun x462 => (rngM 0 (rows0.length : Int) >>= fun xs472 => mapS (fun x468 => (atI rows0 x468 >>= fun t471 => atI t471 x462)) xs472)) xs473) >>= fun a474 => some a474)
theorem sc_turned : FnScope ["rows", "a", "b"] ["rows"] (defScope s_turned) := ⟨rfl, rfl, rfl, by decide +kernel, rfl, by decide +kernel, by decide +kernel⟩
theorem ok_turned (T : Tx K mg) : Fk P w K mg base CX0 1 "turned" ["rows"] (PF (aC (rL (rL rB)) aN) (rL (rL rB)) (fun i => m_turned i.1)) := by
  obtain ⟨fd, F⟩ := T.def_ 1 rfl
  have nd := sc_turned.nd
  refine fk_mk T.toTx (x := "turned") (T.glo 8 rfl) F (fun _ _ _ _ _ _ us hl => match us, hl with | [_], _ => rfl) (F.ok sc_turned (fun vs H Q E h => ?_) (fun cdv A outer s H vs Q E hr h => ?_))
  · obtain ⟨G, ⟨rows0, ⟨⟩⟩, r, e0, ⟨vrows0, _, rfl, hrows0, rfl⟩, h, k⟩ := h
    rfl
  · obtain ⟨G, ⟨rows0, ⟨⟩⟩, r, e0, ⟨vrows0, _, rfl, hrows0, rfl⟩, h, k⟩ := h
    have w0 := Wo.start e0
    have h : m_turned rows0 = some r := h
    unfold m_turned at h
    refine ⟨_, PSs.nox (pss_cons (ps_ret (pe_lc (own := [("a", 1)]) (by rfl) nd (pi_range1 (by rfl) (fr_range T) (pa_cons (pe_callB (r := rLn K) call_len_seq (by rfl) (fr_len T) (by decide +kernel) (pa_cons (pv 0) pa_nil)) pa_nil)) (blkOk_by (by kernel_rfl)) (fun _ _ _ _ _ => pg_name (i := 1) nd rfl (by first | exact Or.inl rfl | exact Or.inr rfl)) (fun _ _ _ _ _ => pts_nil) (fun _ _ _ _ _ => (pe_lc (own := [("b", 2)]) (by rfl) nd (pi_range1 (by rfl) (fr_range T) (pa_cons (pe_callB (r := rLn K) call_len_seq (by rfl) (fr_len T) (by decide +kernel) (pa_cons (pv 0) pa_nil)) pa_nil)) (blkOk_by (by kernel_rfl)) (fun _ _ _ _ _ => pg_name (i := 2) nd rfl (by first | exact Or.inl rfl | exact Or.inr rfl)) (fun _ _ _ _ _ => pts_nil) (fun _ _ _ _ _ => (pe_ix (r := rIxL K) ix_list (pe_ix (r := rIxL K) ix_list (pv 0) (pv 2) (fun _ _ => rfl)) (pv 1) (fun _ _ => rfl))))))) pss_nil), ?_⟩
    obtain ⟨a474, hx475, h⟩ := bindS h
    have h : a474 = r := Option.some.inj h
    subst h
    exact x_ret w0 (EL.e (el_mapR (el_lcR (j := 1) (ea_cons (e_cb rc_lenL (ea_cons (e_var (R := (rL (rL rB))) (x := rows0) rfl hrows0) ea_nil)) ea_nil) (fun _ => rfl) (fun _ _ _ _ _ _ => et_yes) (fun x462 G463 W464 eG459 eW460 eX461 => (EL.e (el_mapR (el_lcR (j := 2) (ea_cons (e_cb rc_lenL (ea_cons (e_var (R := (rL (rL rB))) (x := rows0) rfl (Rep.mono _ eG459 hrows0)) ea_nil)) ea_nil) (fun _ => rfl) (fun _ _ _ _ _ _ => et_yes) (fun x468 G469 W470 eG465 eW466 eX467 => (e_op rr_ixL (e_op rr_ixL (e_var (R := (rL (rL rB))) (x := rows0) rfl (Rep.mono _ eG465 (Rep.mono _ eG459 hrows0))) (e_var (R := rI) (x := x468) rfl rfl)) (e_var (R := rI) (x := x462) rfl rfl)))))))))) (by first | exact hx475 | (simp only [Option.bind_eq_bind, Option.bind_some, Option.bind_assoc] at hx475 ⊢; exact hx475)) (fun v9 H9 G9 w9 e9 r9 => k v9 H9 G9 w9.upE r9)
def m_least_above_b1 (rows0 : (List (List Bool))) (uppers_485 : (List Int)) (x510 : Int) (s499 : Unit) : Option (Stp Unit (Option Int)) :=
  (((lcS (fun x522 => (atI rows0 x510 >>= fun t527 => atI t527 x522)) (fun x522 => some x522) uppers_485 >>= fun t529 => some (t529.length : Int)) >>= fun t530 => some (t530 == (uppers_485.length : Int))) >>= fun b531 => bif b531 then (some (some x510) >>= fun a535 => some (Stp.rt a535)) else some (Stp.nx ()))
def m_least_above (rows0 : (List (List Bool))) (first0 : Int) (second0 : Int) : Option (Option Int) :=
  ((rngM 0 (rows0.length : Int) >>= fun xs484 => lcS (fun x479 => (andO ((atI rows0 first0 >>= fun t482 => atI t482 x479)) ((atI rows0 second0 >>= fun t483 => atI t483 x479)))) (fun x479 => some x479) xs484) >>= fun uppers_485 => (some uppers_485 >>= fun xs494 => forL (m_least_above_b1 rows0 uppers_485) xs494 () >>= Sum.elim (fun s499 => (some (none : (Option Int)) >>= fun a547 => some a547)) (fun r => some r)))
theorem sc_least_above : FnScope ["rows", "first", "second", "uppers", "found", "e"] ["rows", "first", "second"] (defScope s_least_above) := ⟨rfl, rfl, rfl, by decide +kernel, rfl, by decide +kernel, by decide +kernel⟩
theorem ok_least_above (T : Tx K mg) : Fk P w K mg base CX0 1 "least_above" ["rows", "first", "second"] (PF (aC (rL (rL rB)) (aC rI (aC rI aN))) (rO rI) (fun i => m_least_above i.1 i.2.1 i.2.2.1)) := by
  obtain ⟨fd, F⟩ := T.def_ 2 rfl
  have nd := sc_least_above.nd
  refine fk_mk T.toTx (x := "least_above") (T.glo 9 rfl) F (fun _ _ _ _ _ _ us hl => match us, hl with | [_, _, _], _ => rfl) (F.ok sc_least_above (fun vs H Q E h => ?_) (fun cdv A outer s H vs Q E hr h => ?_))
  · obtain ⟨G, ⟨rows0, first0, second0, ⟨⟩⟩, r, e0, ⟨vrows0, _, rfl, hrows0, vfirst0, _, rfl, hfirst0, vsecond0, _, rfl, hsecond0, rfl⟩, h, k⟩ := h
    rfl
  · obtain ⟨G, ⟨rows0, first0, second0, ⟨⟩⟩, r, e0, ⟨vrows0, _, rfl, hrows0, vfirst0, _, rfl, hfirst0, vsecond0, _, rfl, hsecond0, rfl⟩, h, k⟩ := h
    cases hfirst0
    cases hsecond0
    have w0 := Wo.start e0
    have h : m_least_above rows0 first0 second0 = some r := h
    unfold m_least_above at h
    refine ⟨_, PSs.nox (pss_cons (ps_setLc (i := 3) (own := [("e", 5)]) (by rfl) nd rfl rfl (sw_true rfl rfl rfl (by decide +kernel)) (pi_range1 (by rfl) (fr_range T) (pa_cons (pe_callB (r := rLn K) call_len_seq (by rfl) (fr_len T) (by decide +kernel) (pa_cons (pv 0) pa_nil)) pa_nil)) (blkOk_by (by kernel_rfl)) (fun _ _ _ _ _ => pg_name (i := 5) nd rfl (by first | exact Or.inl rfl | exact Or.inr rfl)) (fun _ _ _ _ _ => pts_one (PW.pt (pw_and (pt_val (pe_ix (r := rIxL K) ix_list (pe_ix (r := rIxL K) ix_list (pv 0) (pv 1) (fun _ _ => rfl)) (pv 5) (fun _ _ => rfl))) (pw_and1 (pt_val (pe_ix (r := rIxL K) ix_list (pe_ix (r := rIxL K) ix_list (pv 0) (pv 2) (fun _ _ => rfl)) (pv 5) (fun _ _ => rfl))))))) (fun _ _ _ _ _ => (pv 5))) (pss_cons (ps_for PassesOwn.never rfl (pi_list (pv 3)) (pg_name (i := 4) nd rfl (Or.inr rfl)) (pss_cons (ps_if (pt_cmpR op_eq (pe_callB (r := rLn K) call_len_seq (by rfl) (fr_len T) (by decide +kernel) (pa_cons (pe_lc (own := [("e", 5)]) (by rfl) nd (show L2.PI _ _ _ (iList K _) from pi_list (pv 3)) (blkOk_by (by kernel_rfl)) (fun _ _ _ _ _ => pg_name (i := 5) nd rfl (by first | exact Or.inl rfl | exact Or.inr rfl)) (fun _ _ _ _ _ => pts_one (pt_val (pe_ix (r := rIxL K) ix_list (pe_ix (r := rIxL K) ix_list (pv 0) (pv 4) (fun _ _ => rfl)) (pv 5) (fun _ _ => rfl)))) (fun _ _ _ _ _ => (pv 5))) pa_nil)) (pe_callB (r := rLn K) call_len_seq (by rfl) (fr_len T) (by decide +kernel) (pa_cons (pv 3) pa_nil)) (nomark _)) (pss_cons (ps_ret (pv 4)) pss_nil) pss_nil) pss_nil)) (pss_cons (ps_ret pe_non) pss_nil))), ?_⟩
    obtain ⟨uppers_485, hx486, h⟩ := bindS h
    refine x_set w0 (EL.e (el_lcR (j := 5) (ea_cons (e_cb rc_lenL (ea_cons (e_var (R := (rL (rL rB))) (x := rows0) rfl hrows0) ea_nil)) ea_nil) (fun _ => rfl) (fun x479 G480 W481 eG476 eW477 eX478 => (et_and (et_B (e_op rr_ixL (e_op rr_ixL (e_var (R := (rL (rL rB))) (x := rows0) rfl (Rep.mono _ eX478 (Rep.mono _ eG476 hrows0))) (e_var (R := rI) (x := first0) rfl rfl)) (e_var (R := rI) (x := x479) rfl rfl))) (et_B (e_op rr_ixL (e_op rr_ixL (e_var (R := (rL (rL rB))) (x := rows0) rfl (Rep.mono _ eX478 (Rep.mono _ eG476 hrows0))) (e_var (R := rI) (x := second0) rfl rfl)) (e_var (R := rI) (x := x479) rfl rfl))))) (fun x479 G480 W481 eG476 eW477 eX478 => (e_var (R := rI) (x := x479) rfl rfl)))) (by first | exact hx486 | (simp only [Option.bind_eq_bind, Option.bind_some, Option.bind_assoc] at hx486 ⊢; exact hx486)) ?_
    intro v489 H487 G490 w488 e491 h492
    have h493 := Rep.mono _ e491 hrows0
    obtain ⟨xs494, hx495, h⟩ := bindS h
    obtain ⟨t497, hx498, h⟩ := bindS h
    refine x_forL w488 (e_var (R := (rL rI)) (x := uppers_485) rfl h492) hx495 (fun i G' H' σ' => ∃ s499 : Unit, ∃ u500 : Option V, ∃ u501 : Option V, Wo G H [] G' H' [] ∧ Evl.Ex G490 G' ∧ σ' = [some vrows0, some (V.int first0), some (V.int second0), some v489, u501, u500] ∧ forL (m_least_above_b1 rows0 uppers_485) (xs494.drop i) s499 = some t497) (fun _ _ _ _ ⟨_, _, _, w, _⟩ => w.ex) ?_ ?_ ?_
    · intro G' H' w' e'
      exact ⟨(), (none), (none), w', e', rfl, hx498⟩
    · rintro G512 e513 i509 x510 v514 σ' G505 H508 hx511 e516 ⟨s499, u500, u501, w506, e507, rfl, hm503⟩ r515
      obtain ⟨q504, hb502, hm503⟩ := forL_at hx511 hm503
      have h517 := Rep.mono _ e507 h493
      have h518 := Rep.mono _ e507 h492
      refine g_name ?_
      cases r515
      unfold m_least_above_b1 at hb502
      obtain ⟨b531, hx532, hb502⟩ := bindS hb502
      refine x_if w506 (et_T (e_op rr_eqI (e_cb rc_lenL (ea_cons (EL.e (el_lcL (j := 5) (e_var (R := (rL rI)) (x := uppers_485) rfl (Rep.mono _ w506.ex h518)) (fun _ => rfl) (fun x522 v525 G523 W524 eG519 eW520 eX521 h526 => (et_B (e_op rr_ixL (e_op rr_ixL (e_var (R := (rL (rL rB))) (x := rows0) rfl (Rep.mono _ eX521 (Rep.mono _ eG519 (Rep.mono _ w506.ex h517)))) (e_var (R := rI) (x := x510) rfl rfl)) (e_var (R := rI) (x := x522) rfl (Rep.mono _ eX521 h526))))) (fun x522 v525 G523 W524 eG519 eW520 eX521 h526 => (e_var (R := rI) (x := x522) rfl h526)))) ea_nil)) (e_cb rc_lenL (ea_cons (e_var (R := (rL rI)) (x := uppers_485) rfl (Rep.mono _ w506.ex h518)) ea_nil)))) (by first | exact hx532 | (simp only [Option.bind_eq_bind, Option.bind_some, Option.bind_assoc] at hx532 ⊢; exact hx532)) ?_ ?_
      · intro hbb531 H533 w534
        subst hbb531
        obtain ⟨a535, hx536, hb502⟩ := bindS hb502
        have hb502 : some (Stp.rt a535) = some q504 := hb502
        cases hb502
        have hm503 : some (Sum.inr a535) = some t497 := hm503
        cases hm503
        have h : a535 = r := Option.some.inj h
        subst h
        exact x_ret w534 (e_some (e_var (R := rI) (x := x510) rfl rfl)) hx536 (fun v9 H9 G9 w9 e9 r9 => k v9 H9 G9 w9.upE r9)
      · intro hbb531 H537 w538
        subst hbb531
        refine x_next ?_
        refine x_next ?_
        have hb502 : Stp.nx () = q504 := Option.some.inj hb502
        subst hb502
        exact ⟨G505, (e516.trans (Evl.Ex.refl _)), (), (u500), (some (V.int x510)), w538, e507, rfl, hm503⟩
    · rintro σ' G539 H542 e543 ⟨s499, u500, u501, w540, e541, rfl, hm503⟩
      have hm503 := forL_end hm503
      subst hm503
      have h545 := Rep.mono _ e541 h493
      have h546 := Rep.mono _ e541 h492
      obtain ⟨a547, hx548, h⟩ := bindS h
      have h : a547 = r := Option.some.inj h
      subst h
      exact x_ret w540 (e_none (R := rI)) hx548 (fun v9 H9 G9 w9 e9 r9 => k v9 H9 G9 w9.upE r9)
def m_bounds_table (rows0 : (List (List Bool))) : Option (List (List (Option Int))) :=
  (some (rows0.length : Int) >>= fun size_549 => ((rngM 0 size_549 >>= fun xs566 => mapS (fun x556 => (rngM 0 size_549 >>= fun xs565 => mapS (fun x562 => m_least_above rows0 x556 x562) xs565)) xs566) >>= fun a567 => some a567))
theorem sc_bounds_table : FnScope ["rows", "size", "a", "b"] ["rows"] (defScope s_bounds_table) := ⟨rfl, rfl, rfl, by decide +kernel, rfl, by decide +kernel, by decide +kernel⟩
theorem ok_bounds_table (T : Tx K mg) : Fk P w K mg base CX0 2 "bounds_table" ["rows"] (PF (aC (rL (rL rB)) aN) (rL (rL (rO rI))) (fun i => m_bounds_table i.1)) := by
  obtain ⟨fd_least_above, G_least_above, b_least_above, k_least_above, g_least_above⟩ := ok_least_above (P := P) (w := w) (base := base) T
  obtain ⟨fd, F⟩ := T.def_ 3 rfl
  have nd := sc_bounds_table.nd
  refine fk_mk T.toTx (x := "bounds_table") (T.glo 10 rfl) F (fun _ _ _ _ _ _ us hl => match us, hl with | [_], _ => rfl) (F.ok sc_bounds_table (fun vs H Q E h => ?_) (fun cdv A outer s H vs Q E hr h => ?_))
  · obtain ⟨G, ⟨rows0, ⟨⟩⟩, r, e0, ⟨vrows0, _, rfl, hrows0, rfl⟩, h, k⟩ := h
    rfl
  · obtain ⟨G, ⟨rows0, ⟨⟩⟩, r, e0, ⟨vrows0, _, rfl, hrows0, rfl⟩, h, k⟩ := h
    have w0 := Wo.start e0
    have h : m_bounds_table rows0 = some r := h
    unfold m_bounds_table at h
    refine ⟨_, PSs.nox (pss_cons (ps_set (i := 1) nd rfl (Or.inr rfl) (pe_callB (r := rLn K) call_len_seq (by rfl) (fr_len T) (by decide +kernel) (pa_cons (pv 0) pa_nil))) (pss_cons (ps_ret (pe_lc (own := [("a", 2)]) (by rfl) nd (pi_range1 (by rfl) (fr_range T) (pa_cons (pv 1) pa_nil)) (blkOk_by (by kernel_rfl)) (fun _ _ _ _ _ => pg_name (i := 2) nd rfl (by first | exact Or.inl rfl | exact Or.inr rfl)) (fun _ _ _ _ _ => pts_nil) (fun _ _ _ _ _ => (pe_lc (own := [("b", 3)]) (by rfl) nd (pi_range1 (by rfl) (fr_range T) (pa_cons (pv 1) pa_nil)) (blkOk_by (by kernel_rfl)) (fun _ _ _ _ _ => pg_name (i := 3) nd rfl (by first | exact Or.inl rfl | exact Or.inr rfl)) (fun _ _ _ _ _ => pts_nil) (fun _ _ _ _ _ => (pe_call G_least_above (hr.mono (by decide)) rfl g_least_above k_least_above b_least_above .nil pass0 (pa_cons (pv 0) (pa_cons (pv 2) (pa_cons (pv 3) pa_nil))))))))) pss_nil)), ?_⟩
    obtain ⟨size_549, hx550, h⟩ := bindS h
    refine x_setI w0 (e_cb rc_lenL (ea_cons (e_var (R := (rL (rL rB))) (x := rows0) rfl hrows0) ea_nil)) hx550 ?_
    intro H551 w552
    obtain ⟨a567, hx568, h⟩ := bindS h
    have h : a567 = r := Option.some.inj h
    subst h
    exact x_ret w552 (EL.e (el_mapR (el_lcR (j := 2) (ea_cons (e_var (R := rI) (x := size_549) rfl rfl) ea_nil) (fun _ => rfl) (fun _ _ _ _ _ _ => et_yes) (fun x556 G557 W558 eG553 eW554 eX555 => (EL.e (el_mapR (el_lcR (j := 3) (ea_cons (e_var (R := rI) (x := size_549) rfl rfl) ea_nil) (fun _ => rfl) (fun _ _ _ _ _ _ => et_yes) (fun x562 G563 W564 eG559 eW560 eX561 => (e_call (ea_cons (e_var (R := (rL (rL rB))) (x := rows0) rfl (Rep.mono _ eG559 (Rep.mono _ eG553 hrows0))) (ea_cons (e_var (R := rI) (x := x556) rfl rfl) (ea_cons (e_var (R := rI) (x := x562) rfl rfl) ea_nil)))))))))))) hx568 (fun v9 H9 G9 w9 e9 r9 => k v9 H9 G9 w9.upE r9)
def m_first_ring_b2 (rows0 : (List (List Bool))) (x587 : Int) (x609 : Int) (s599 : Unit) : Option (Stp Unit (Option (Int × Int))) :=
  ((andO ((atI rows0 x587 >>= fun t612 => atI t612 x609)) ((atI rows0 x609 >>= fun t613 => atI t613 x587))) >>= fun b614 => bif b614 then (some (some (x587, x609)) >>= fun a618 => some (Stp.rt a618)) else some (Stp.nx ()))
def m_first_ring_b1 (rows0 : (List (List Bool))) (x587 : Int) (s576 : Unit) : Option (Stp Unit (Option (Int × Int))) :=
  (some (x587 + (1 : Int)) >>= fun n590 => some (rows0.length : Int) >>= fun n592 => rngM n590 n592 >>= fun xs594 => forL (m_first_ring_b2 rows0 x587) xs594 () >>= Sum.elim (fun s599 => some (Stp.nx ())) (fun r => some (Stp.rt r)))
def m_first_ring (rows0 : (List (List Bool))) : Option (Option (Int × Int)) :=
  (some (rows0.length : Int) >>= fun n569 => rngM 0 n569 >>= fun xs571 => forL (m_first_ring_b1 rows0) xs571 () >>= Sum.elim (fun s576 => (some (none : (Option (Int × Int))) >>= fun a634 => some a634)) (fun r => some r))
theorem sc_first_ring : FnScope ["rows", "first", "second"] ["rows"] (defScope s_first_ring) := ⟨rfl, rfl, rfl, by decide +kernel, rfl, by decide +kernel, by decide +kernel⟩
theorem ok_first_ring (T : Tx K mg) : Fk P w K mg base CX0 1 "first_ring" ["rows"] (PF (aC (rL (rL rB)) aN) (rO (rP rI rI)) (fun i => m_first_ring i.1)) := by
  obtain ⟨fd, F⟩ := T.def_ 4 rfl
  have nd := sc_first_ring.nd
  refine fk_mk T.toTx (x := "first_ring") (T.glo 11 rfl) F (fun _ _ _ _ _ _ us hl => match us, hl with | [_], _ => rfl) (F.ok sc_first_ring (fun vs H Q E h => ?_) (fun cdv A outer s H vs Q E hr h => ?_))
  · obtain ⟨G, ⟨rows0, ⟨⟩⟩, r, e0, ⟨vrows0, _, rfl, hrows0, rfl⟩, h, k⟩ := h
    rfl
  · obtain ⟨G, ⟨rows0, ⟨⟩⟩, r, e0, ⟨vrows0, _, rfl, hrows0, rfl⟩, h, k⟩ := h
    have w0 := Wo.start e0
    have h : m_first_ring rows0 = some r := h
    unfold m_first_ring at h
    refine ⟨_, PSs.nox (pss_cons (ps_for PassesOwn.never rfl (pi_range1 (by rfl) (fr_range T) (pa_cons (pe_callB (r := rLn K) call_len_seq (by rfl) (fr_len T) (by decide +kernel) (pa_cons (pv 0) pa_nil)) pa_nil)) (pg_name (i := 1) nd rfl (Or.inl rfl)) (pss_cons (ps_for PassesOwn.never rfl (pi_range2 (by rfl) (fr_range T) (pa_cons (pe_op op_add (pv 1) pe_int) (pa_cons (pe_callB (r := rLn K) call_len_seq (by rfl) (fr_len T) (by decide +kernel) (pa_cons (pv 0) pa_nil)) pa_nil))) (pg_name (i := 2) nd rfl (Or.inl rfl)) (pss_cons (ps_if (PW.pt (pw_and (pt_val (pe_ix (r := rIxL K) ix_list (pe_ix (r := rIxL K) ix_list (pv 0) (pv 1) (fun _ _ => rfl)) (pv 2) (fun _ _ => rfl))) (pw_and1 (pt_val (pe_ix (r := rIxL K) ix_list (pe_ix (r := rIxL K) ix_list (pv 0) (pv 2) (fun _ _ => rfl)) (pv 1) (fun _ _ => rfl)))))) (pss_cons (ps_ret (pe_tup (pa_cons (pv 1) (pa_cons (pv 2) pa_nil)))) pss_nil) pss_nil) pss_nil)) pss_nil)) (pss_cons (ps_ret pe_non) pss_nil)), ?_⟩
    obtain ⟨n569, hx570, h⟩ := bindS h
    obtain ⟨xs571, hx572, h⟩ := bindS h
    obtain ⟨t574, hx575, h⟩ := bindS h
    refine x_forR w0 (ea_cons (Sim.E.is (e_cb rc_lenL (ea_cons (e_var (R := (rL (rL rB))) (x := rows0) rfl hrows0) ea_nil)) hx570) ea_nil) rfl hx572 (fun i G' H' σ' => ∃ s576 : Unit, ∃ u577 : Option V, ∃ u578 : Option V, Wo G H [] G' H' [] ∧ Evl.Ex G G' ∧ σ' = [some vrows0, u577, u578] ∧ forL (m_first_ring_b1 rows0) (xs571.drop i) s576 = some t574) ?_ ?_ ?_
    · intro G' H' w' e'
      exact ⟨(), (none), (none), w', e', rfl, hx575⟩
    · rintro i586 x587 σ' G582 H585 hx588 ⟨s576, u577, u578, w583, e584, rfl, hm580⟩
      obtain ⟨q581, hb579, hm580⟩ := forL_at hx588 hm580
      have h589 := Rep.mono _ e584 hrows0
      refine g_name ?_
      unfold m_first_ring_b1 at hb579
      obtain ⟨n590, hx591, hb579⟩ := bindS hb579
      obtain ⟨n592, hx593, hb579⟩ := bindS hb579
      obtain ⟨xs594, hx595, hb579⟩ := bindS hb579
      obtain ⟨t597, hx598, hb579⟩ := bindS hb579
      refine x_forR2 w583 (ea_cons (Sim.E.is (e_op rr_add (e_var (R := rI) (x := x587) rfl rfl) e_int) hx591) (ea_cons (Sim.E.is (e_cb rc_lenL (ea_cons (e_var (R := (rL (rL rB))) (x := rows0) rfl h589) ea_nil)) hx593) ea_nil)) rfl hx595 (fun i G' H' σ' => ∃ s599 : Unit, ∃ u600 : Option V, Wo G H [] G' H' [] ∧ Evl.Ex G582 G' ∧ σ' = [some vrows0, some (V.int x587), u600] ∧ forL (m_first_ring_b2 rows0 x587) (xs594.drop i) s599 = some t597) ?_ ?_ ?_
      · intro G' H' w' e'
        exact ⟨(), (u578), w', e', rfl, hx598⟩
      · rintro i608 x609 σ' G604 H607 hx610 ⟨s599, u600, w605, e606, rfl, hm602⟩
        obtain ⟨q603, hb601, hm602⟩ := forL_at hx610 hm602
        have h611 := Rep.mono _ e606 h589
        refine g_name ?_
        unfold m_first_ring_b2 at hb601
        obtain ⟨b614, hx615, hb601⟩ := bindS hb601
        refine x_if w605 (et_and (et_B (e_op rr_ixL (e_op rr_ixL (e_var (R := (rL (rL rB))) (x := rows0) rfl (Rep.mono _ w605.ex h611)) (e_var (R := rI) (x := x587) rfl rfl)) (e_var (R := rI) (x := x609) rfl rfl))) (et_B (e_op rr_ixL (e_op rr_ixL (e_var (R := (rL (rL rB))) (x := rows0) rfl (Rep.mono _ w605.ex h611)) (e_var (R := rI) (x := x609) rfl rfl)) (e_var (R := rI) (x := x587) rfl rfl)))) (by first | exact hx615 | (simp only [Option.bind_eq_bind, Option.bind_some, Option.bind_assoc] at hx615 ⊢; exact hx615)) ?_ ?_
        · intro hbb614 H616 w617
          subst hbb614
          obtain ⟨a618, hx619, hb601⟩ := bindS hb601
          have hb601 : some (Stp.rt a618) = some q603 := hb601
          cases hb601
          have hm602 : some (Sum.inr a618) = some t597 := hm602
          cases hm602
          have hb579 : some (Stp.rt a618) = some q581 := hb579
          cases hb579
          have hm580 : some (Sum.inr a618) = some t574 := hm580
          cases hm580
          have h : a618 = r := Option.some.inj h
          subst h
          exact x_ret w617 (e_some (e_pair (e_var (R := rI) (x := x587) rfl rfl) (e_var (R := rI) (x := x609) rfl rfl))) hx619 (fun v9 H9 G9 w9 e9 r9 => k v9 H9 G9 w9.upE r9)
        · intro hbb614 H620 w621
          subst hbb614
          refine x_next ?_
          refine x_next ?_
          have hb601 : Stp.nx () = q603 := Option.some.inj hb601
          subst hb601
          exact ⟨G604, (), (some (V.int x609)), w621, e606, rfl, hm602⟩
      · rintro σ' G622 H625 ⟨s599, u600, w623, e624, rfl, hm602⟩
        have hm602 := forL_end hm602
        subst hm602
        have h627 := Rep.mono _ e624 h589
        refine x_next ?_
        have hb579 : Stp.nx () = q581 := Option.some.inj hb579
        subst hb579
        exact ⟨G622, (), (some (V.int x587)), (u600), w623, (e584.trans e624), rfl, hm580⟩
    · rintro σ' G628 H631 ⟨s576, u577, u578, w629, e630, rfl, hm580⟩
      have hm580 := forL_end hm580
      subst hm580
      have h633 := Rep.mono _ e630 hrows0
      obtain ⟨a634, hx635, h⟩ := bindS h
      have h : a634 = r := Option.some.inj h
      subst h
      exact x_ret w629 (e_none (R := (rP rI rI))) hx635 (fun v9 H9 G9 w9 e9 r9 => k v9 H9 G9 w9.upE r9)
def m_first_lack_b2 (table0 : (List (List (Option Int)))) (x654 : Int) (x676 : Int) (s666 : Unit) : Option (Stp Unit (Option (Int × Int))) :=
  (((atI table0 x654 >>= fun t679 => atI t679 x676) >>= fun t680 => some t680.isNone) >>= fun b681 => bif b681 then (some (some (x654, x676)) >>= fun a685 => some (Stp.rt a685)) else some (Stp.nx ()))
def m_first_lack_b1 (table0 : (List (List (Option Int)))) (x654 : Int) (s643 : Unit) : Option (Stp Unit (Option (Int × Int))) :=
  (some (x654 + (1 : Int)) >>= fun n657 => some (table0.length : Int) >>= fun n659 => rngM n657 n659 >>= fun xs661 => forL (m_first_lack_b2 table0 x654) xs661 () >>= Sum.elim (fun s666 => some (Stp.nx ())) (fun r => some (Stp.rt r)))
def m_first_lack (table0 : (List (List (Option Int)))) : Option (Option (Int × Int)) :=
  (some (table0.length : Int) >>= fun n636 => rngM 0 n636 >>= fun xs638 => forL (m_first_lack_b1 table0) xs638 () >>= Sum.elim (fun s643 => (some (none : (Option (Int × Int))) >>= fun a701 => some a701)) (fun r => some r))
theorem sc_first_lack : FnScope ["table", "first", "second"] ["table"] (defScope s_first_lack) := ⟨rfl, rfl, rfl, by decide +kernel, rfl, by decide +kernel, by decide +kernel⟩
theorem ok_first_lack (T : Tx K mg) : Fk P w K mg base CX0 1 "first_lack" ["table"] (PF (aC (rL (rL (rO rI))) aN) (rO (rP rI rI)) (fun i => m_first_lack i.1)) := by
  obtain ⟨fd, F⟩ := T.def_ 5 rfl
  have nd := sc_first_lack.nd
  refine fk_mk T.toTx (x := "first_lack") (T.glo 12 rfl) F (fun _ _ _ _ _ _ us hl => match us, hl with | [_], _ => rfl) (F.ok sc_first_lack (fun vs H Q E h => ?_) (fun cdv A outer s H vs Q E hr h => ?_))
  · obtain ⟨G, ⟨table0, ⟨⟩⟩, r, e0, ⟨vtable0, _, rfl, htable0, rfl⟩, h, k⟩ := h
    rfl
  · obtain ⟨G, ⟨table0, ⟨⟩⟩, r, e0, ⟨vtable0, _, rfl, htable0, rfl⟩, h, k⟩ := h
    have w0 := Wo.start e0
    have h : m_first_lack table0 = some r := h
    unfold m_first_lack at h
    refine ⟨_, PSs.nox (pss_cons (ps_for PassesOwn.never rfl (pi_range1 (by rfl) (fr_range T) (pa_cons (pe_callB (r := rLn K) call_len_seq (by rfl) (fr_len T) (by decide +kernel) (pa_cons (pv 0) pa_nil)) pa_nil)) (pg_name (i := 1) nd rfl (Or.inl rfl)) (pss_cons (ps_for PassesOwn.never rfl (pi_range2 (by rfl) (fr_range T) (pa_cons (pe_op op_add (pv 1) pe_int) (pa_cons (pe_callB (r := rLn K) call_len_seq (by rfl) (fr_len T) (by decide +kernel) (pa_cons (pv 0) pa_nil)) pa_nil))) (pg_name (i := 2) nd rfl (Or.inl rfl)) (pss_cons (ps_if (pt_cmpR op_isN (pe_ix (r := rIxL K) ix_list (pe_ix (r := rIxL K) ix_list (pv 0) (pv 1) (fun _ _ => rfl)) (pv 2) (fun _ _ => rfl)) pe_non (nomark _)) (pss_cons (ps_ret (pe_tup (pa_cons (pv 1) (pa_cons (pv 2) pa_nil)))) pss_nil) pss_nil) pss_nil)) pss_nil)) (pss_cons (ps_ret pe_non) pss_nil)), ?_⟩
    obtain ⟨n636, hx637, h⟩ := bindS h
    obtain ⟨xs638, hx639, h⟩ := bindS h
    obtain ⟨t641, hx642, h⟩ := bindS h
    refine x_forR w0 (ea_cons (Sim.E.is (e_cb rc_lenL (ea_cons (e_var (R := (rL (rL (rO rI)))) (x := table0) rfl htable0) ea_nil)) hx637) ea_nil) rfl hx639 (fun i G' H' σ' => ∃ s643 : Unit, ∃ u644 : Option V, ∃ u645 : Option V, Wo G H [] G' H' [] ∧ Evl.Ex G G' ∧ σ' = [some vtable0, u644, u645] ∧ forL (m_first_lack_b1 table0) (xs638.drop i) s643 = some t641) ?_ ?_ ?_
    · intro G' H' w' e'
      exact ⟨(), (none), (none), w', e', rfl, hx642⟩
    · rintro i653 x654 σ' G649 H652 hx655 ⟨s643, u644, u645, w650, e651, rfl, hm647⟩
      obtain ⟨q648, hb646, hm647⟩ := forL_at hx655 hm647
      have h656 := Rep.mono _ e651 htable0
      refine g_name ?_
      unfold m_first_lack_b1 at hb646
      obtain ⟨n657, hx658, hb646⟩ := bindS hb646
      obtain ⟨n659, hx660, hb646⟩ := bindS hb646
      obtain ⟨xs661, hx662, hb646⟩ := bindS hb646
      obtain ⟨t664, hx665, hb646⟩ := bindS hb646
      refine x_forR2 w650 (ea_cons (Sim.E.is (e_op rr_add (e_var (R := rI) (x := x654) rfl rfl) e_int) hx658) (ea_cons (Sim.E.is (e_cb rc_lenL (ea_cons (e_var (R := (rL (rL (rO rI)))) (x := table0) rfl h656) ea_nil)) hx660) ea_nil)) rfl hx662 (fun i G' H' σ' => ∃ s666 : Unit, ∃ u667 : Option V, Wo G H [] G' H' [] ∧ Evl.Ex G649 G' ∧ σ' = [some vtable0, some (V.int x654), u667] ∧ forL (m_first_lack_b2 table0 x654) (xs661.drop i) s666 = some t664) ?_ ?_ ?_
      · intro G' H' w' e'
        exact ⟨(), (u645), w', e', rfl, hx665⟩
      · rintro i675 x676 σ' G671 H674 hx677 ⟨s666, u667, w672, e673, rfl, hm669⟩
        obtain ⟨q670, hb668, hm669⟩ := forL_at hx677 hm669
        have h678 := Rep.mono _ e673 h656
        refine g_name ?_
        unfold m_first_lack_b2 at hb668
        obtain ⟨b681, hx682, hb668⟩ := bindS hb668
        refine x_if w672 (et_T (e_op (rr_isN nnI) (e_op rr_ixL (e_op rr_ixL (e_var (R := (rL (rL (rO rI)))) (x := table0) rfl (Rep.mono _ w672.ex h678)) (e_var (R := rI) (x := x654) rfl rfl)) (e_var (R := rI) (x := x676) rfl rfl)) e_non)) (by first | exact hx682 | (simp only [Option.bind_eq_bind, Option.bind_some, Option.bind_assoc] at hx682 ⊢; exact hx682)) ?_ ?_
        · intro hbb681 H683 w684
          subst hbb681
          obtain ⟨a685, hx686, hb668⟩ := bindS hb668
          have hb668 : some (Stp.rt a685) = some q670 := hb668
          cases hb668
          have hm669 : some (Sum.inr a685) = some t664 := hm669
          cases hm669
          have hb646 : some (Stp.rt a685) = some q648 := hb646
          cases hb646
          have hm647 : some (Sum.inr a685) = some t641 := hm647
          cases hm647
          have h : a685 = r := Option.some.inj h
          subst h
          exact x_ret w684 (e_some (e_pair (e_var (R := rI) (x := x654) rfl rfl) (e_var (R := rI) (x := x676) rfl rfl))) hx686 (fun v9 H9 G9 w9 e9 r9 => k v9 H9 G9 w9.upE r9)
        · intro hbb681 H687 w688
          subst hbb681
          refine x_next ?_
          refine x_next ?_
          have hb668 : Stp.nx () = q670 := Option.some.inj hb668
          subst hb668
          exact ⟨G671, (), (some (V.int x676)), w688, e673, rfl, hm669⟩
      · rintro σ' G689 H692 ⟨s666, u667, w690, e691, rfl, hm669⟩
        have hm669 := forL_end hm669
        subst hm669
        have h694 := Rep.mono _ e691 h656
        refine x_next ?_
        have hb646 : Stp.nx () = q648 := Option.some.inj hb646
        subst hb646
        exact ⟨G689, (), (some (V.int x654)), (u667), w690, (e651.trans e691), rfl, hm647⟩
    · rintro σ' G695 H698 ⟨s643, u644, u645, w696, e697, rfl, hm647⟩
      have hm647 := forL_end hm647
      subst hm647
      have h700 := Rep.mono _ e697 htable0
      obtain ⟨a701, hx702, h⟩ := bindS h
      have h : a701 = r := Option.some.inj h
      subst h
      exact x_ret w696 (e_none (R := (rP rI rI))) hx702 (fun v9 H9 G9 w9 e9 r9 => k v9 H9 G9 w9.upE r9)
def m_longest_b3 (x764 : Int) (rows0 : (List (List Bool))) (x785 : Int) (s775 : (List Int)) : Option (List Int) :=
  (((andO (some (!(x764 == x785))) ((atI rows0 x764 >>= fun t789 => atI t789 x785))) >>= fun b790 => bif b790 then ((atI s775 x785 >>= fun t815 => ((atI s775 x764 >>= fun t814 => some (t814 + (1 : Int))) >>= fun t816 => some (if t816 > t815 then t816 else t815))) >>= fun a817 => some x785 >>= fun i818 => setM s775 i818 a817 >>= fun steps_819 => some steps_819) else some s775) >>= fun s806 => some (s806))
def m_longest_b2 (rows0 : (List (List Bool))) (x764 : Int) (s753 : (List Int)) : Option (List Int) :=
  (some (rows0.length : Int) >>= fun n768 => rngM 0 n768 >>= fun xs770 => forS (m_longest_b3 x764 rows0) xs770 s753 >>= fun s775 => some (s775))
def m_longest_b1 (rows0 : (List (List Bool))) (x738 : (List Bool)) (s726 : (List Int)) : Option (List Int) :=
  (some (rows0.length : Int) >>= fun n746 => rngM 0 n746 >>= fun xs748 => forS (m_longest_b2 rows0) xs748 s726 >>= fun s753 => some (s753))
def m_longest (rows0 : (List (List Bool))) : Option Int :=
  (mapS (fun x706 => some (0 : Int)) rows0 >>= fun steps_712 => (some rows0 >>= fun xs721 => forS (m_longest_b1 rows0) xs721 steps_712 >>= fun s726 => (maxL s726 >>= fun a861 => some a861)))
theorem sc_longest : FnScope ["rows", "steps", "_", "low", "high"] ["rows"] (defScope s_longest) := ⟨rfl, rfl, rfl, by decide +kernel, rfl, by decide +kernel, by decide +kernel⟩
theorem ok_longest (T : Tx K mg) : Fk P w K mg base CX0 1 "longest" ["rows"] (PF (aC (rL (rL rB)) aN) rI (fun i => m_longest i.1)) := by
  obtain ⟨fd, F⟩ := T.def_ 6 rfl
  have nd := sc_longest.nd
  refine fk_mk T.toTx (x := "longest") (T.glo 13 rfl) F (fun _ _ _ _ _ _ us hl => match us, hl with | [_], _ => rfl) (F.ok sc_longest (fun vs H Q E h => ?_) (fun cdv A outer s H vs Q E hr h => ?_))
  · obtain ⟨G, ⟨rows0, ⟨⟩⟩, r, e0, ⟨vrows0, _, rfl, hrows0, rfl⟩, h, k⟩ := h
    rfl
  · obtain ⟨G, ⟨rows0, ⟨⟩⟩, r, e0, ⟨vrows0, _, rfl, hrows0, rfl⟩, h, k⟩ := h
    have w0 := Wo.start e0
    have h : m_longest rows0 = some r := h
    unfold m_longest at h
    refine ⟨_, PSs.nox (pss_cons (ps_setLc (i := 1) (own := [("_", 2)]) (by rfl) nd rfl rfl (sw_true rfl rfl rfl (by decide +kernel)) (show L2.PI _ _ _ (iList K _) from pi_list (pv 0)) (blkOk_by (by kernel_rfl)) (fun _ _ _ _ _ => pg_name (i := 2) nd rfl (by first | exact Or.inl rfl | exact Or.inr rfl)) (fun _ _ _ _ _ => pts_nil) (fun _ _ _ _ _ => pe_int)) (pss_cons (ps_for PassesOwn.never rfl (pi_list (pv 0)) (pg_name (i := 2) nd rfl (Or.inl rfl)) (pss_cons (ps_for PassesOwn.never rfl (pi_range1 (by rfl) (fr_range T) (pa_cons (pe_callB (r := rLn K) call_len_seq (by rfl) (fr_len T) (by decide +kernel) (pa_cons (pv 0) pa_nil)) pa_nil)) (pg_name (i := 3) nd rfl (Or.inl rfl)) (pss_cons (ps_for PassesOwn.never rfl (pi_range1 (by rfl) (fr_range T) (pa_cons (pe_callB (r := rLn K) call_len_seq (by rfl) (fr_len T) (by decide +kernel) (pa_cons (pv 0) pa_nil)) pa_nil)) (pg_name (i := 4) nd rfl (Or.inl rfl)) (Evl.pss_cut (ps_if (PW.pt (pw_and (pt_cmpR op_ne (pv 3) (pv 4) (nomark _)) (pw_and1 (pt_val (pe_ix (r := rIxL K) ix_list (pe_ix (r := rIxL K) ix_list (pv 0) (pv 3) (fun _ _ => rfl)) (pv 4) (fun _ _ => rfl)))))) (pss_cons (ps_asg (pe_callB (call_max2 rfl) (by rfl) (fr_max T) (by decide +kernel) (pa_cons (pe_ix (r := rIxL K) ix_list (pv 1) (pv 4) (fun _ _ => rfl)) (pa_cons (pe_op op_add (pe_ix (r := rIxL K) ix_list (pv 1) (pv 3) (fun _ _ => rfl)) pe_int) pa_nil))) (pg_sub (pv 1) (pv 4) set_list)) pss_nil) pss_nil) pss_nil)) pss_nil)) pss_nil)) (pss_cons (ps_ret (pe_callB (r := rMax K) (cr_max rfl) (by rfl) (fr_max T) (by decide +kernel) (pa_cons (pv 1) pa_nil))) pss_nil))), ?_⟩
    obtain ⟨steps_712, hx713, h⟩ := bindS h
    refine x_setL w0 (el_map (el_lcL (j := 2) (e_var (R := (rL (rL rB))) (x := rows0) rfl hrows0) (fun _ => rfl) (fun _ _ _ _ _ _ _ _ => et_yes) (fun x706 v709 G707 W708 eG703 eW704 eX705 h710 => e_int))) hx713 ?_
    intro p716 H714 G717 n718 w715 e719
    have h720 := Rep.mono _ e719 hrows0
    obtain ⟨xs721, hx722, h⟩ := bindS h
    obtain ⟨t724, hx725, h⟩ := bindS h
    refine x_forL w715 (e_var (R := (rL (rL rB))) (x := rows0) rfl h720) hx722 (fun i G' H' σ' => ∃ s726 : (List Int), ∃ u727 : Option V, ∃ u728 : Option V, ∃ u729 : Option V, Wo G H [] G' H' [(p716, cL rI s726)] ∧ Evl.Ex G717 G' ∧ σ' = [some vrows0, some (V.ref p716), u727, u729, u728] ∧ forS (m_longest_b1 rows0) (xs721.drop i) s726 = some t724) (fun _ _ _ _ ⟨_, _, _, _, w, _⟩ => w.ex) ?_ ?_ ?_
    · intro G' H' w' e'
      exact ⟨steps_712, (none), (none), (none), w', e', rfl, hx725⟩
    · rintro G740 e741 i737 x738 v742 σ' G733 H736 hx739 e744 ⟨s726, u727, u728, u729, w734, e735, rfl, hm731⟩ r743
      obtain ⟨q732, hb730, hm731⟩ := forS_at hx739 hm731
      have h745 := Rep.mono _ e735 h720
      refine g_name ?_
      unfold m_longest_b1 at hb730
      obtain ⟨n746, hx747, hb730⟩ := bindS hb730
      obtain ⟨xs748, hx749, hb730⟩ := bindS hb730
      obtain ⟨t751, hx752, hb730⟩ := bindS hb730
      refine x_forR w734 (ea_cons (Sim.E.is (e_cb rc_lenL (ea_cons (e_var (R := (rL (rL rB))) (x := rows0) rfl h745) ea_nil)) hx747) ea_nil) rfl hx749 (fun i G' H' σ' => ∃ s753 : (List Int), ∃ u754 : Option V, ∃ u755 : Option V, Wo G H [] G' H' [(p716, cL rI s753)] ∧ Evl.Ex G733 G' ∧ σ' = [some vrows0, some (V.ref p716), some v742, u755, u754] ∧ forS (m_longest_b2 rows0) (xs748.drop i) s753 = some t751) ?_ ?_ ?_
      · intro G' H' w' e'
        exact ⟨s726, (u728), (u729), w', e', rfl, hx752⟩
      · rintro i763 x764 σ' G759 H762 hx765 ⟨s753, u754, u755, w760, e761, rfl, hm757⟩
        obtain ⟨q758, hb756, hm757⟩ := forS_at hx765 hm757
        have h766 := Rep.mono _ e761 h745
        have h767 := Rep.mono _ e761 r743
        refine g_name ?_
        unfold m_longest_b2 at hb756
        obtain ⟨n768, hx769, hb756⟩ := bindS hb756
        obtain ⟨xs770, hx771, hb756⟩ := bindS hb756
        obtain ⟨t773, hx774, hb756⟩ := bindS hb756
        refine x_forR w760 (ea_cons (Sim.E.is (e_cb rc_lenL (ea_cons (e_var (R := (rL (rL rB))) (x := rows0) rfl h766) ea_nil)) hx769) ea_nil) rfl hx771 (fun i G' H' σ' => ∃ s775 : (List Int), ∃ u776 : Option V, Wo G H [] G' H' [(p716, cL rI s775)] ∧ Evl.Ex G759 G' ∧ σ' = [some vrows0, some (V.ref p716), some v742, some (V.int x764), u776] ∧ forS (m_longest_b3 x764 rows0) (xs770.drop i) s775 = some t773) ?_ ?_ ?_
        · intro G' H' w' e'
          exact ⟨s753, (u754), w', e', rfl, hx774⟩
        · rintro i784 x785 σ' G780 H783 hx786 ⟨s775, u776, w781, e782, rfl, hm778⟩
          obtain ⟨q779, hb777, hm778⟩ := forS_at hx786 hm778
          have h787 := Rep.mono _ e782 h766
          have h788 := Rep.mono _ e782 h767
          refine g_name ?_
          unfold m_longest_b3 at hb777
          obtain ⟨s806, hx807, hb777⟩ := bindS hb777
          refine o_cut (fun σ' H' => ∃ G' : Hp, Wo G H [] G' H' [(p716, cL rI s806)] ∧ Evl.Ex G780 G' ∧ σ' = [some vrows0, some (V.ref p716), some v742, some (V.int x764), some (V.int x785)]) ?_ ?_
          · obtain ⟨b790, hx811, hx807⟩ := bindS hx807
            refine x_if w781 (et_and (et_T (e_op rr_neI (e_var (R := rI) (x := x764) rfl rfl) (e_var (R := rI) (x := x785) rfl rfl))) (et_B (e_op rr_ixL (e_op rr_ixL (e_var (R := (rL (rL rB))) (x := rows0) rfl (Rep.mono _ w781.ex h787)) (e_var (R := rI) (x := x764) rfl rfl)) (e_var (R := rI) (x := x785) rfl rfl)))) (by first | exact hx811 | (simp only [Option.bind_eq_bind, Option.bind_some, Option.bind_assoc] at hx811 ⊢; exact hx811)) ?_ ?_
            · intro hbb790 H812 w813
              subst hbb790
              obtain ⟨a817, hx820, hx807⟩ := bindS hx807
              obtain ⟨i818, hx821, hx807⟩ := bindS hx807
              obtain ⟨steps_819, hx822, hx807⟩ := bindS hx807
              refine x_setIx (j := 0) w813 rfl rfl (Sim.E.s scI (e_cb rc_max2 (ea_cons (e_op rr_ixL (e_var (R := rL rI) (x := s775) rfl (w813.rlAt (i := 0) rfl)) (e_var (R := rI) (x := x785) rfl rfl)) (ea_cons (e_op rr_add (e_op rr_ixL (e_var (R := rL rI) (x := s775) rfl (w813.rlAt (i := 0) rfl)) (e_var (R := rI) (x := x764) rfl rfl)) e_int) ea_nil)))) (by first | exact hx820 | (simp only [Option.bind_eq_bind, Option.bind_some, Option.bind_assoc] at hx820 ⊢; exact hx820)) (e_var (R := rI) (x := x785) rfl rfl) (by first | exact hx821 | (simp only [Option.bind_eq_bind, Option.bind_some, Option.bind_assoc] at hx821 ⊢; exact hx821)) hx822 ?_
              intro H823 G824 w825 e826
              have h827 := Rep.mono _ e826 h787
              have h828 := Rep.mono _ e826 h788
              have w825 : Wo G H [] G824 H823 [(p716, cL rI steps_819)] := w825
              refine x_next ?_
              have hx807 : steps_819 = s806 := Option.some.inj hx807
              subst hx807
              exact ⟨G824, w825, e826, rfl⟩
            · intro hbb790 H829 w830
              subst hbb790
              refine x_next ?_
              have hx807 : s775 = s806 := Option.some.inj hx807
              subst hx807
              exact ⟨G780, w830, (Evl.Ex.refl _), rfl⟩
          · rintro σ' H834 ⟨G831, w809, e808, rfl⟩
            have h832 := Rep.mono _ e808 h787
            have h833 := Rep.mono _ e808 h788
            refine x_next ?_
            have hb777 : s806 = q779 := Option.some.inj hb777
            subst hb777
            exact ⟨G831, s806, (some (V.int x785)), w809, (e782.trans e808), rfl, hm778⟩
        · rintro σ' G835 H838 ⟨s775, u776, w836, e837, rfl, hm778⟩
          have hm778 := forS_end hm778
          subst hm778
          have h840 := Rep.mono _ e837 h766
          have h841 := Rep.mono _ e837 h767
          refine x_next ?_
          have hb756 : s775 = q758 := Option.some.inj hb756
          subst hb756
          exact ⟨G835, s775, (u776), (some (V.int x764)), w836, (e761.trans e837), rfl, hm757⟩
      · rintro σ' G842 H845 ⟨s753, u754, u755, w843, e844, rfl, hm757⟩
        have hm757 := forS_end hm757
        subst hm757
        have h847 := Rep.mono _ e844 h745
        have h848 := Rep.mono _ e844 r743
        refine x_next ?_
        have hb730 : s753 = q732 := Option.some.inj hb730
        subst hb730
        exact ⟨G842, (e744.trans e844), s753, (some v742), (u754), (u755), w843, (e735.trans e844), rfl, hm731⟩
    · rintro σ' G849 H852 e853 ⟨s726, u727, u728, u729, w850, e851, rfl, hm731⟩
      have hm731 := forS_end hm731
      subst hm731
      have h855 := Rep.mono _ e851 h720
      obtain ⟨G856, w857, e858, h859⟩ := w850.freezeAt (i := 0) rfl n718
      have h860 := Rep.mono _ e858 h855
      have w857 : Wo G H [] G856 H852 [] := w857
      obtain ⟨a861, hx862, h⟩ := bindS h
      have h : a861 = r := Option.some.inj h
      subst h
      exact x_ret w857 (e_cb rc_maxL (ea_cons (e_var (R := (rL rI)) (x := s726) rfl h859) ea_nil)) hx862 (fun v9 H9 G9 w9 e9 r9 => k v9 H9 G9 w9.upE r9)
def m_neighbours (rows0 : (List (List Bool))) (low0 : Int) (high0 : Int) : Option Bool :=
  ((orO (some (low0 == high0)) (((atI rows0 low0 >>= fun t863 => atI t863 high0) >>= fun t864 => some (!t864)))) >>= fun b865 => bif b865 then (some false >>= fun a869 => some a869) else ((((rngM 0 (rows0.length : Int) >>= fun xs881 => lcS (fun x876 => (andO ((atI rows0 low0 >>= fun t879 => atI t879 x876)) ((atI rows0 x876 >>= fun t880 => atI t880 high0)))) (fun x876 => some x876) xs881) >>= fun t882 => some (t882.length : Int)) >>= fun t883 => some (t883 == (2 : Int))) >>= fun a884 => some a884))
theorem sc_neighbours : FnScope ["rows", "low", "high", "e"] ["rows", "low", "high"] (defScope s_neighbours) := ⟨rfl, rfl, rfl, by decide +kernel, rfl, by decide +kernel, by decide +kernel⟩
theorem ok_neighbours (T : Tx K mg) : Fk P w K mg base CX0 1 "neighbours" ["rows", "low", "high"] (PF (aC (rL (rL rB)) (aC rI (aC rI aN))) rB (fun i => m_neighbours i.1 i.2.1 i.2.2.1)) := by
  obtain ⟨fd, F⟩ := T.def_ 7 rfl
  have nd := sc_neighbours.nd
  refine fk_mk T.toTx (x := "neighbours") (T.glo 14 rfl) F (fun _ _ _ _ _ _ us hl => match us, hl with | [_, _, _], _ => rfl) (F.ok sc_neighbours (fun vs H Q E h => ?_) (fun cdv A outer s H vs Q E hr h => ?_))
  · obtain ⟨G, ⟨rows0, low0, high0, ⟨⟩⟩, r, e0, ⟨vrows0, _, rfl, hrows0, vlow0, _, rfl, hlow0, vhigh0, _, rfl, hhigh0, rfl⟩, h, k⟩ := h
    rfl
  · obtain ⟨G, ⟨rows0, low0, high0, ⟨⟩⟩, r, e0, ⟨vrows0, _, rfl, hrows0, vlow0, _, rfl, hlow0, vhigh0, _, rfl, hhigh0, rfl⟩, h, k⟩ := h
    cases hlow0
    cases hhigh0
    have w0 := Wo.start e0
    have h : m_neighbours rows0 low0 high0 = some r := h
    unfold m_neighbours at h
    refine ⟨_, PSs.nox (pss_cons (ps_if (PW.pt (pw_or (pt_cmpR op_eq (pv 1) (pv 2) (nomark _)) (pw_or1 (pt_not (pt_val (pe_ix (r := rIxL K) ix_list (pe_ix (r := rIxL K) ix_list (pv 0) (pv 1) (fun _ _ => rfl)) (pv 2) (fun _ _ => rfl))))))) (pss_cons (ps_ret pe_bl) pss_nil) pss_nil) (pss_cons (ps_ret (pe_cmpR op_eq (pe_callB (r := rLn K) call_len_seq (by rfl) (fr_len T) (by decide +kernel) (pa_cons (pe_lc (own := [("e", 3)]) (by rfl) nd (pi_range1 (by rfl) (fr_range T) (pa_cons (pe_callB (r := rLn K) call_len_seq (by rfl) (fr_len T) (by decide +kernel) (pa_cons (pv 0) pa_nil)) pa_nil)) (blkOk_by (by kernel_rfl)) (fun _ _ _ _ _ => pg_name (i := 3) nd rfl (by first | exact Or.inl rfl | exact Or.inr rfl)) (fun _ _ _ _ _ => pts_one (PW.pt (pw_and (pt_val (pe_ix (r := rIxL K) ix_list (pe_ix (r := rIxL K) ix_list (pv 0) (pv 1) (fun _ _ => rfl)) (pv 3) (fun _ _ => rfl))) (pw_and1 (pt_val (pe_ix (r := rIxL K) ix_list (pe_ix (r := rIxL K) ix_list (pv 0) (pv 3) (fun _ _ => rfl)) (pv 2) (fun _ _ => rfl))))))) (fun _ _ _ _ _ => (pv 3))) pa_nil)) pe_int (nomark _))) pss_nil)), ?_⟩
    obtain ⟨b865, hx866, h⟩ := bindS h
    refine x_if w0 (et_or (et_T (e_op rr_eqI (e_var (R := rI) (x := low0) rfl rfl) (e_var (R := rI) (x := high0) rfl rfl))) (et_not (et_B (e_op rr_ixL (e_op rr_ixL (e_var (R := (rL (rL rB))) (x := rows0) rfl (Rep.mono _ w0.ex hrows0)) (e_var (R := rI) (x := low0) rfl rfl)) (e_var (R := rI) (x := high0) rfl rfl))))) (by first | exact hx866 | (simp only [Option.bind_eq_bind, Option.bind_some, Option.bind_assoc] at hx866 ⊢; exact hx866)) ?_ ?_
    · intro hbb865 H867 w868
      subst hbb865
      obtain ⟨a869, hx870, h⟩ := bindS h
      have h : a869 = r := Option.some.inj h
      subst h
      exact x_ret w868 e_bl hx870 (fun v9 H9 G9 w9 e9 r9 => k v9 H9 G9 w9.upE r9)
    · intro hbb865 H871 w872
      subst hbb865
      refine x_next ?_
      obtain ⟨a884, hx885, h⟩ := bindS h
      have h : a884 = r := Option.some.inj h
      subst h
      exact x_ret w872 (e_op rr_eqI (e_cb rc_lenL (ea_cons (EL.e (el_lcR (j := 3) (ea_cons (e_cb rc_lenL (ea_cons (e_var (R := (rL (rL rB))) (x := rows0) rfl hrows0) ea_nil)) ea_nil) (fun _ => rfl) (fun x876 G877 W878 eG873 eW874 eX875 => (et_and (et_B (e_op rr_ixL (e_op rr_ixL (e_var (R := (rL (rL rB))) (x := rows0) rfl (Rep.mono _ eX875 (Rep.mono _ eG873 hrows0))) (e_var (R := rI) (x := low0) rfl rfl)) (e_var (R := rI) (x := x876) rfl rfl))) (et_B (e_op rr_ixL (e_op rr_ixL (e_var (R := (rL (rL rB))) (x := rows0) rfl (Rep.mono _ eX875 (Rep.mono _ eG873 hrows0))) (e_var (R := rI) (x := x876) rfl rfl)) (e_var (R := rI) (x := high0) rfl rfl))))) (fun x876 G877 W878 eG873 eW874 eX875 => (e_var (R := rI) (x := x876) rfl rfl)))) ea_nil)) e_int) (by first | exact hx885 | (simp only [Option.bind_eq_bind, Option.bind_some, Option.bind_assoc] at hx885 ⊢; exact hx885)) (fun v9 H9 G9 w9 e9 r9 => k v9 H9 G9 w9.upE r9)
def m_Order___init___b2 (size0 : Int) (x936 : Int) (s926 : Unit) : Option Unit :=
  (some ((decide (x936 < (0 : Int))) || (decide (size0 ≤ x936))) >>= fun b944 => bif b944 then none else some (()))
def m_Order___init___b1 (size0 : Int) (x909 : (Int × Int)) (s897 : Unit) : Option Unit :=
  (some ([x909.1, x909.2]) >>= fun xs921 => forS (m_Order___init___b2 size0) xs921 () >>= fun s926 => some (()))
def m_Order___init__ (size0 : Int) (pairs0 : (List (Int × Int))) : Option m_Order :=
  (some ((decide (size0 < (1 : Int))) || (decide ((12 : Int) < size0))) >>= fun b886 => bif b886 then none else (some pairs0 >>= fun xs892 => forS (m_Order___init___b1 size0) xs892 () >>= fun s897 => (m_closure size0 pairs0 >>= fun above_964 => (m_first_ring above_964 >>= fun bad_973 => (some bad_973.isSome >>= fun b983 => bif b983 then none else (m_bounds_table above_964 >>= fun joins_989 => (m_first_lack joins_989 >>= fun bad_1000 => (some bad_1000.isSome >>= fun b1012 => bif b1012 then none else ((m_turned above_964 >>= fun t1018 => m_bounds_table t1018) >>= fun meets_1019 => (m_first_lack meets_1019 >>= fun bad_1031 => (some bad_1031.isSome >>= fun b1044 => bif b1044 then none else (some above_964 >>= fun f1050 => (some joins_989 >>= fun f1061 => (some meets_1019 >>= fun f1072 => (rngM 0 size0 >>= fun f1083 => (m_longest above_964 >>= fun f1094 => some (m_Order.mk f1050 f1061 f1072 f1083 f1094)))))))))))))))))
theorem sc_Order___init__ : FnScope ["self", "size", "pairs", "above", "bad", "joins", "meets", "low", "high", "value"] ["self", "size", "pairs"] (defScope s_Order___init__) := ⟨rfl, rfl, rfl, by decide +kernel, rfl, by decide +kernel, by decide +kernel⟩
theorem ok_Order___init__ (T : Tx K mg) : Fm P w K mg base CX0 3 "Order" "__init__" ["self", "size", "pairs"] (Sim.PI (He.ga K "Order") (aC rI (aC (rL (rP rI rI)) aN)) ns_Order (fl_Order K) (fun i => m_Order___init__ i.1 i.2.1)) := by
  obtain ⟨fd_closure, G_closure, b_closure, k_closure, g_closure⟩ := ok_closure (P := P) (w := w) (base := base) T
  obtain ⟨fd_first_ring, G_first_ring, b_first_ring, k_first_ring, g_first_ring⟩ := ok_first_ring (P := P) (w := w) (base := base) T
  obtain ⟨fd_bounds_table, G_bounds_table, b_bounds_table, k_bounds_table, g_bounds_table⟩ := ok_bounds_table (P := P) (w := w) (base := base) T
  obtain ⟨fd_first_lack, G_first_lack, b_first_lack, k_first_lack, g_first_lack⟩ := ok_first_lack (P := P) (w := w) (base := base) T
  obtain ⟨fd_turned, G_turned, b_turned, k_turned, g_turned⟩ := ok_turned (P := P) (w := w) (base := base) T
  obtain ⟨fd_longest, G_longest, b_longest, k_longest, g_longest⟩ := ok_longest (P := P) (w := w) (base := base) T
  obtain ⟨u_Order_MOST, c_Order_MOST⟩ := T.con 0 (C := "Order") (f := "MOST") (v := .int 12) rfl
  obtain ⟨fd, F⟩ := T.def_ 8 rfl
  have nd := sc_Order___init__.nd
  refine fm_mk F (fun _ _ _ _ _ _ us hl => match us, hl with | [_, _, _], _ => rfl) (F.ok sc_Order___init__ (fun vs H Q E h => ?_) (fun cdv A outer s H vs Q E hr h => ?_))
  · obtain ⟨G, l, _, ⟨size0, pairs0, ⟨⟩⟩, r, rfl, wd, ⟨vsize0, _, rfl, hsize0, vpairs0, _, rfl, hpairs0, rfl⟩, h, k⟩ := h
    rfl
  · obtain ⟨G, l, _, ⟨size0, pairs0, ⟨⟩⟩, r, rfl, wd, ⟨vsize0, _, rfl, hsize0, vpairs0, _, rfl, hpairs0, rfl⟩, h, k⟩ := h
    cases hsize0
    have w0 : Wo G H [l] G H _ := Wo.startC wd
    have h : m_Order___init__ size0 pairs0 = some r := h
    unfold m_Order___init__ at h
    refine ⟨_, PSs.nox (pss_cons (ps_if (PW.pt (pw_or (pt_cmpR op_lt (pv 1) pe_int (nomark _)) (pw_or1 (pt_cmpR op_gt (pv 1) (pe_con (pv 0) rfl) (nomark _))))) (pss_cons ps_never pss_nil) pss_nil) (pss_cons (ps_for PassesOwn.never rfl (pi_list (pv 2)) (pg_tup (by rfl) (pgs_cons (pg_name (i := 7) nd rfl (by first | exact Or.inl rfl | exact Or.inr rfl)) (pgs_cons (pg_name (i := 8) nd rfl (by first | exact Or.inl rfl | exact Or.inr rfl)) pgs_nil))) (pss_cons (ps_for PassesOwn.never rfl (pi_tup (pe_tup (pa_cons (pv 7) (pa_cons (pv 8) pa_nil)))) (pg_name (i := 9) nd rfl (Or.inl rfl)) (pss_cons (ps_if (PW.pt (pw_or (pt_cmpR op_lt (pv 9) pe_int (nomark _)) (pw_or1 (pt_cmpR op_ge (pv 9) (pv 1) (nomark _))))) (pss_cons ps_never pss_nil) pss_nil) pss_nil)) pss_nil)) (pss_cons (ps_set (i := 3) nd rfl (Or.inl rfl) (pe_call G_closure (hr.mono (by decide)) rfl g_closure k_closure b_closure .nil pass0 (pa_cons (pv 1) (pa_cons (pv 2) pa_nil)))) (pss_cons (ps_set (i := 4) nd rfl (Or.inl rfl) (pe_call G_first_ring (hr.mono (by decide)) rfl g_first_ring k_first_ring b_first_ring .nil pass0 (pa_cons (pv 3) pa_nil))) (pss_cons (ps_if (pt_cmpR op_notN (pv 4) pe_non (nomark _)) (pss_cons ps_never pss_nil) pss_nil) (pss_cons (ps_set (i := 5) nd rfl (Or.inl rfl) (pe_call G_bounds_table (hr.mono (by decide)) rfl g_bounds_table k_bounds_table b_bounds_table .nil pass0 (pa_cons (pv 3) pa_nil))) (pss_cons (ps_set (i := 4) nd rfl (Or.inl rfl) (pe_call G_first_lack (hr.mono (by decide)) rfl g_first_lack k_first_lack b_first_lack .nil pass0 (pa_cons (pv 5) pa_nil))) (pss_cons (ps_if (pt_cmpR op_notN (pv 4) pe_non (nomark _)) (pss_cons ps_never pss_nil) pss_nil) (pss_cons (ps_set (i := 6) nd rfl (Or.inl rfl) (pe_call G_bounds_table (hr.mono (by decide)) rfl g_bounds_table k_bounds_table b_bounds_table .nil pass0 (pa_cons (pe_call G_turned (hr.mono (by decide)) rfl g_turned k_turned b_turned .nil pass0 (pa_cons (pv 3) pa_nil)) pa_nil))) (pss_cons (ps_set (i := 4) nd rfl (Or.inl rfl) (pe_call G_first_lack (hr.mono (by decide)) rfl g_first_lack k_first_lack b_first_lack .nil pass0 (pa_cons (pv 6) pa_nil))) (pss_cons (ps_if (pt_cmpR op_notN (pv 4) pe_non (nomark _)) (pss_cons ps_never pss_nil) pss_nil) (pss_cons (ps_fld (pv 0) (pv 3) rfl) (pss_cons (ps_fld (pv 0) (pv 5) rfl) (pss_cons (ps_fld (pv 0) (pv 6) rfl) (pss_cons (ps_fld (pv 0) (pe_listRg (by rfl) (by rfl) (fr_list T) (prg_1 (by rfl) (fr_range T) (pv 1))) rfl) (pss_cons (ps_fld (pv 0) (pe_call G_longest (hr.mono (by decide)) rfl g_longest k_longest b_longest .nil pass0 (pa_cons (pv 3) pa_nil)) rfl) pss_nil)))))))))))))))), ?_⟩
    obtain ⟨b886, hx887, h⟩ := bindS h
    refine x_if w0 (et_orP (et_T (e_op rr_lt (e_var (R := rI) (x := size0) rfl rfl) e_int)) (et_T (e_op rr_gt (e_var (R := rI) (x := size0) rfl rfl) (e_conC (S := rI) (x := (12 : Int)) (j := 0) w0 rfl rfl (T.cls 35 rfl) c_Order_MOST (by decide +kernel) (fun _ => rfl))))) hx887 ?_ ?_
    · intro hbb886 H888 w889
      subst hbb886
      exact absurd h (by simp)
    · intro hbb886 H890 w891
      subst hbb886
      refine x_next ?_
      obtain ⟨xs892, hx893, h⟩ := bindS h
      obtain ⟨t895, hx896, h⟩ := bindS h
      refine x_forL w891 (e_var (R := (rL (rP rI rI))) (x := pairs0) rfl hpairs0) hx893 (fun i G' H' σ' => ∃ s897 : Unit, ∃ u898 : Option V, ∃ u899 : Option V, ∃ u900 : Option V, Wo G H [l] G' H' [(l, cI (He.ga K "Order") [] [])] ∧ Evl.Ex G G' ∧ σ' = [some (V.ref l), some (V.int size0), some vpairs0, none, none, none, none, u899, u898, u900] ∧ forS (m_Order___init___b1 size0) (xs892.drop i) s897 = some t895) (fun _ _ _ _ ⟨_, _, _, _, w, _⟩ => w.ex) ?_ ?_ ?_
      · intro G' H' w' e'
        exact ⟨(), (none), (none), (none), w', e', rfl, hx896⟩
      · rintro G911 e912 i908 x909 v913 σ' G904 H907 hx910 e915 ⟨s897, u898, u899, u900, w905, e906, rfl, hm902⟩ r914
        obtain ⟨q903, hb901, hm902⟩ := forS_at hx910 hm902
        have h916 := Rep.mono _ e906 hpairs0
        refine g_pair (i := 7) (j := 8) r914 w905.ex ?_
        intro v917 v918 r919 r920
        cases r919
        cases r920
        unfold m_Order___init___b1 at hb901
        obtain ⟨xs921, hx922, hb901⟩ := bindS hb901
        obtain ⟨t924, hx925, hb901⟩ := bindS hb901
        refine x_forT w905 (e_tupH (eal_cons (e_var (R := rI) (x := x909.1) rfl rfl) (eal_cons (e_var (R := rI) (x := x909.2) rfl rfl) eal_nil))) hx922 (fun i G' H' σ' => ∃ s926 : Unit, ∃ u927 : Option V, Wo G H [l] G' H' [(l, cI (He.ga K "Order") [] [])] ∧ Evl.Ex G904 G' ∧ σ' = [some (V.ref l), some (V.int size0), some vpairs0, none, none, none, none, some (V.int x909.1), some (V.int x909.2), u927] ∧ forS (m_Order___init___b2 size0) (xs921.drop i) s926 = some t924) (fun _ _ _ _ ⟨_, _, w, _⟩ => w.ex) ?_ ?_ ?_
        · intro G' H' w' e'
          exact ⟨(), (u900), w', e', rfl, hx925⟩
        · rintro G938 e939 i935 x936 v940 σ' G931 H934 hx937 e942 ⟨s926, u927, w932, e933, rfl, hm929⟩ r941
          obtain ⟨q930, hb928, hm929⟩ := forS_at hx937 hm929
          have h943 := Rep.mono _ e933 h916
          refine g_name ?_
          cases r941
          unfold m_Order___init___b2 at hb928
          obtain ⟨b944, hx945, hb928⟩ := bindS hb928
          refine x_if w932 (et_orP (et_T (e_op rr_lt (e_var (R := rI) (x := x936) rfl rfl) e_int)) (et_T (e_op rr_ge (e_var (R := rI) (x := x936) rfl rfl) (e_var (R := rI) (x := size0) rfl rfl)))) hx945 ?_ ?_
          · intro hbb944 H946 w947
            subst hbb944
            exact absurd hb928 (by simp)
          · intro hbb944 H948 w949
            subst hbb944
            refine x_next ?_
            refine x_next ?_
            have hb928 : () = q930 := Option.some.inj hb928
            subst hb928
            exact ⟨G931, (e942.trans (Evl.Ex.refl _)), (), (some (V.int x936)), w949, e933, rfl, hm929⟩
        · rintro σ' G950 H953 e954 ⟨s926, u927, w951, e952, rfl, hm929⟩
          have hm929 := forS_end hm929
          subst hm929
          have h956 := Rep.mono _ e952 h916
          refine x_next ?_
          have hb901 : () = q903 := Option.some.inj hb901
          subst hb901
          exact ⟨G950, (e915.trans e952), (), (some (V.int x909.2)), (some (V.int x909.1)), (u927), w951, (e906.trans e952), rfl, hm902⟩
      · rintro σ' G957 H960 e961 ⟨s897, u898, u899, u900, w958, e959, rfl, hm902⟩
        have hm902 := forS_end hm902
        subst hm902
        have h963 := Rep.mono _ e959 hpairs0
        obtain ⟨above_964, hx965, h⟩ := bindS h
        refine x_set w958 (e_call (ea_cons (e_var (R := rI) (x := size0) rfl rfl) (ea_cons (e_var (R := (rL (rP rI rI))) (x := pairs0) rfl h963) ea_nil))) hx965 ?_
        intro v968 H966 G969 w967 e970 h971
        have h972 := Rep.mono _ e970 h963
        obtain ⟨bad_973, hx974, h⟩ := bindS h
        refine x_set w967 (e_call (ea_cons (e_var (R := (rL (rL rB))) (x := above_964) rfl h971) ea_nil)) hx974 ?_
        intro v977 H975 G978 w976 e979 h980
        have h981 := Rep.mono _ e979 h972
        have h982 := Rep.mono _ e979 h971
        obtain ⟨b983, hx984, h⟩ := bindS h
        refine x_if w976 (et_T (e_op (rr_notN nnP) (e_var (R := (rO (rP rI rI))) (x := bad_973) rfl (Rep.mono _ w976.ex h980)) e_non)) hx984 ?_ ?_
        · intro hbb983 H985 w986
          subst hbb983
          exact absurd h (by simp)
        · intro hbb983 H987 w988
          subst hbb983
          refine x_next ?_
          obtain ⟨joins_989, hx990, h⟩ := bindS h
          refine x_set w988 (e_call (ea_cons (e_var (R := (rL (rL rB))) (x := above_964) rfl h982) ea_nil)) hx990 ?_
          intro v993 H991 G994 w992 e995 h996
          have h997 := Rep.mono _ e995 h981
          have h998 := Rep.mono _ e995 h982
          have h999 := Rep.mono _ e995 h980
          obtain ⟨bad_1000, hx1001, h⟩ := bindS h
          refine x_set w992 (e_call (ea_cons (e_var (R := (rL (rL (rO rI)))) (x := joins_989) rfl h996) ea_nil)) hx1001 ?_
          intro v1004 H1002 G1005 w1003 e1006 h1007
          have h1008 := Rep.mono _ e1006 h997
          have h1009 := Rep.mono _ e1006 h998
          have h1010 := Rep.mono _ e1006 h999
          have h1011 := Rep.mono _ e1006 h996
          obtain ⟨b1012, hx1013, h⟩ := bindS h
          refine x_if w1003 (et_T (e_op (rr_notN nnP) (e_var (R := (rO (rP rI rI))) (x := bad_1000) rfl (Rep.mono _ w1003.ex h1007)) e_non)) hx1013 ?_ ?_
          · intro hbb1012 H1014 w1015
            subst hbb1012
            exact absurd h (by simp)
          · intro hbb1012 H1016 w1017
            subst hbb1012
            refine x_next ?_
            obtain ⟨meets_1019, hx1020, h⟩ := bindS h
            refine x_set w1017 (e_call (ea_cons (e_call (ea_cons (e_var (R := (rL (rL rB))) (x := above_964) rfl h1009) ea_nil)) ea_nil)) (by first | exact hx1020 | (simp only [Option.bind_eq_bind, Option.bind_some, Option.bind_assoc] at hx1020 ⊢; exact hx1020)) ?_
            intro v1023 H1021 G1024 w1022 e1025 h1026
            have h1027 := Rep.mono _ e1025 h1008
            have h1028 := Rep.mono _ e1025 h1009
            have h1029 := Rep.mono _ e1025 h1007
            have h1030 := Rep.mono _ e1025 h1011
            obtain ⟨bad_1031, hx1032, h⟩ := bindS h
            refine x_set w1022 (e_call (ea_cons (e_var (R := (rL (rL (rO rI)))) (x := meets_1019) rfl h1026) ea_nil)) hx1032 ?_
            intro v1035 H1033 G1036 w1034 e1037 h1038
            have h1039 := Rep.mono _ e1037 h1027
            have h1040 := Rep.mono _ e1037 h1028
            have h1041 := Rep.mono _ e1037 h1029
            have h1042 := Rep.mono _ e1037 h1030
            have h1043 := Rep.mono _ e1037 h1026
            obtain ⟨b1044, hx1045, h⟩ := bindS h
            refine x_if w1034 (et_T (e_op (rr_notN nnP) (e_var (R := (rO (rP rI rI))) (x := bad_1031) rfl (Rep.mono _ w1034.ex h1038)) e_non)) hx1045 ?_ ?_
            · intro hbb1044 H1046 w1047
              subst hbb1044
              exact absurd h (by simp)
            · intro hbb1044 H1048 w1049
              subst hbb1044
              refine x_next ?_
              obtain ⟨f1050, hx1051, h⟩ := bindS h
              refine x_fldN (j := 0) w1049 rfl rfl (e_var (R := (rL (rL rB))) (x := above_964) rfl h1040) hx1051 (T.cls 35 rfl) (T.noat 36 rfl) (by decide +kernel) (by decide) ?_
              intro H1052 G1053 w1054 e1055
              have h1056 := Rep.mono _ e1055 h1039
              have h1057 := Rep.mono _ e1055 h1040
              have h1058 := Rep.mono _ e1055 h1038
              have h1059 := Rep.mono _ e1055 h1042
              have h1060 := Rep.mono _ e1055 h1043
              have w1054 : Wo G H [l] G1053 H1052 [(l, cI (He.ga K "Order") ["_above"] [pd (rL (rL rB)) f1050])] := w1054
              obtain ⟨f1061, hx1062, h⟩ := bindS h
              refine x_fldN (j := 0) w1054 rfl rfl (e_var (R := (rL (rL (rO rI)))) (x := joins_989) rfl h1059) hx1062 (T.cls 35 rfl) (T.noat 37 rfl) (by decide +kernel) (by decide) ?_
              intro H1063 G1064 w1065 e1066
              have h1067 := Rep.mono _ e1066 h1056
              have h1068 := Rep.mono _ e1066 h1057
              have h1069 := Rep.mono _ e1066 h1058
              have h1070 := Rep.mono _ e1066 h1059
              have h1071 := Rep.mono _ e1066 h1060
              have w1065 : Wo G H [l] G1064 H1063 [(l, cI (He.ga K "Order") ["_above", "_joins"] [pd (rL (rL rB)) f1050, pd (rL (rL (rO rI))) f1061])] := w1065
              obtain ⟨f1072, hx1073, h⟩ := bindS h
              refine x_fldN (j := 0) w1065 rfl rfl (e_var (R := (rL (rL (rO rI)))) (x := meets_1019) rfl h1071) hx1073 (T.cls 35 rfl) (T.noat 38 rfl) (by decide +kernel) (by decide) ?_
              intro H1074 G1075 w1076 e1077
              have h1078 := Rep.mono _ e1077 h1067
              have h1079 := Rep.mono _ e1077 h1068
              have h1080 := Rep.mono _ e1077 h1069
              have h1081 := Rep.mono _ e1077 h1070
              have h1082 := Rep.mono _ e1077 h1071
              have w1076 : Wo G H [l] G1075 H1074 [(l, cI (He.ga K "Order") ["_above", "_joins", "_meets"] [pd (rL (rL rB)) f1050, pd (rL (rL (rO rI))) f1061, pd (rL (rL (rO rI))) f1072])] := w1076
              obtain ⟨f1083, hx1084, h⟩ := bindS h
              refine x_fldN (j := 0) w1076 rfl rfl (EL.e (el_listRg (e_var (R := rI) (x := size0) rfl rfl))) hx1084 (T.cls 35 rfl) (T.noat 39 rfl) (by decide +kernel) (by decide) ?_
              intro H1085 G1086 w1087 e1088
              have h1089 := Rep.mono _ e1088 h1078
              have h1090 := Rep.mono _ e1088 h1079
              have h1091 := Rep.mono _ e1088 h1080
              have h1092 := Rep.mono _ e1088 h1081
              have h1093 := Rep.mono _ e1088 h1082
              have w1087 : Wo G H [l] G1086 H1085 [(l, cI (He.ga K "Order") ["_above", "_joins", "_meets", "_members"] [pd (rL (rL rB)) f1050, pd (rL (rL (rO rI))) f1061, pd (rL (rL (rO rI))) f1072, pd (rL rI) f1083])] := w1087
              obtain ⟨f1094, hx1095, h⟩ := bindS h
              refine x_fldN (j := 0) w1087 rfl rfl (e_call (ea_cons (e_var (R := (rL (rL rB))) (x := above_964) rfl h1090) ea_nil)) hx1095 (T.cls 35 rfl) (T.noat 40 rfl) (by decide +kernel) (by decide) ?_
              intro H1096 G1097 w1098 e1099
              have h1100 := Rep.mono _ e1099 h1089
              have h1101 := Rep.mono _ e1099 h1090
              have h1102 := Rep.mono _ e1099 h1091
              have h1103 := Rep.mono _ e1099 h1092
              have h1104 := Rep.mono _ e1099 h1093
              have w1098 : Wo G H [l] G1097 H1096 [(l, cI (He.ga K "Order") ["_above", "_joins", "_meets", "_members", "_height"] [pd (rL (rL rB)) f1050, pd (rL (rL (rO rI))) f1061, pd (rL (rL (rO rI))) f1072, pd (rL rI) f1083, pd rI f1094])] := w1098
              refine x_next ?_
              have h : (m_Order.mk f1050 f1061 f1072 f1083 f1094) = r := Option.some.inj h
              subst h
              exact k _ _ w1098.f (w1098.sub1 (i := 0) rfl)
def m_Order___init___T_b2 (size0 : Int) (x1155 : Int) (s1145 : Unit) : Option Unit :=
  (some ((decide (x1155 < (0 : Int))) || (decide (size0 ≤ x1155))) >>= fun b1163 => bif b1163 then none else some (()))
def m_Order___init___T_b1 (size0 : Int) (x1128 : (Int × Int)) (s1116 : Unit) : Option Unit :=
  (some ([x1128.1, x1128.2]) >>= fun xs1140 => forS (m_Order___init___T_b2 size0) xs1140 () >>= fun s1145 => some (()))
def m_Order___init___T (size0 : Int) (pairs0 : (List (Int × Int))) : Option m_Order :=
  (some ((decide (size0 < (1 : Int))) || (decide ((12 : Int) < size0))) >>= fun b1105 => bif b1105 then none else (some pairs0 >>= fun xs1111 => forS (m_Order___init___T_b1 size0) xs1111 () >>= fun s1116 => (m_closure_T size0 pairs0 >>= fun above_1183 => (m_first_ring above_1183 >>= fun bad_1192 => (some bad_1192.isSome >>= fun b1202 => bif b1202 then none else (m_bounds_table above_1183 >>= fun joins_1208 => (m_first_lack joins_1208 >>= fun bad_1219 => (some bad_1219.isSome >>= fun b1231 => bif b1231 then none else ((m_turned above_1183 >>= fun t1237 => m_bounds_table t1237) >>= fun meets_1238 => (m_first_lack meets_1238 >>= fun bad_1250 => (some bad_1250.isSome >>= fun b1263 => bif b1263 then none else (some above_1183 >>= fun f1269 => (some joins_1208 >>= fun f1280 => (some meets_1238 >>= fun f1291 => (rngM 0 size0 >>= fun f1302 => (m_longest above_1183 >>= fun f1313 => some (m_Order.mk f1269 f1280 f1291 f1302 f1313)))))))))))))))))
theorem sc_Order___init___T : FnScope ["self", "size", "pairs", "above", "bad", "joins", "meets", "low", "high", "value"] ["self", "size", "pairs"] (defScope s_Order___init__) := ⟨rfl, rfl, rfl, by decide +kernel, rfl, by decide +kernel, by decide +kernel⟩
theorem ok_Order___init___T (T : Tx K mg) : Fm P w K mg base CX0 3 "Order" "__init__" ["self", "size", "pairs"] (Sim.PI (He.ga K "Order") (aC rI (aC (rT (rP rI rI)) aN)) ns_Order (fl_Order K) (fun i => m_Order___init___T i.1 i.2.1)) := by
  obtain ⟨fd_closure_T, G_closure_T, b_closure_T, k_closure_T, g_closure_T⟩ := ok_closure_T (P := P) (w := w) (base := base) T
  obtain ⟨fd_first_ring, G_first_ring, b_first_ring, k_first_ring, g_first_ring⟩ := ok_first_ring (P := P) (w := w) (base := base) T
  obtain ⟨fd_bounds_table, G_bounds_table, b_bounds_table, k_bounds_table, g_bounds_table⟩ := ok_bounds_table (P := P) (w := w) (base := base) T
  obtain ⟨fd_first_lack, G_first_lack, b_first_lack, k_first_lack, g_first_lack⟩ := ok_first_lack (P := P) (w := w) (base := base) T
  obtain ⟨fd_turned, G_turned, b_turned, k_turned, g_turned⟩ := ok_turned (P := P) (w := w) (base := base) T
  obtain ⟨fd_longest, G_longest, b_longest, k_longest, g_longest⟩ := ok_longest (P := P) (w := w) (base := base) T
  obtain ⟨u_Order_MOST, c_Order_MOST⟩ := T.con 0 (C := "Order") (f := "MOST") (v := .int 12) rfl
  obtain ⟨fd, F⟩ := T.def_ 8 rfl
  have nd := sc_Order___init___T.nd
  refine fm_mk F (fun _ _ _ _ _ _ us hl => match us, hl with | [_, _, _], _ => rfl) (F.ok sc_Order___init___T (fun vs H Q E h => ?_) (fun cdv A outer s H vs Q E hr h => ?_))
  · obtain ⟨G, l, _, ⟨size0, pairs0, ⟨⟩⟩, r, rfl, wd, ⟨vsize0, _, rfl, hsize0, vpairs0, _, rfl, hpairs0, rfl⟩, h, k⟩ := h
    rfl
  · obtain ⟨G, l, _, ⟨size0, pairs0, ⟨⟩⟩, r, rfl, wd, ⟨vsize0, _, rfl, hsize0, vpairs0, _, rfl, hpairs0, rfl⟩, h, k⟩ := h
    cases hsize0
    have w0 : Wo G H [l] G H _ := Wo.startC wd
    have h : m_Order___init___T size0 pairs0 = some r := h
    unfold m_Order___init___T at h
    refine ⟨_, PSs.nox (pss_cons (ps_if (PW.pt (pw_or (pt_cmpR op_lt (pv 1) pe_int (nomark _)) (pw_or1 (pt_cmpR op_gt (pv 1) (pe_con (pv 0) rfl) (nomark _))))) (pss_cons ps_never pss_nil) pss_nil) (pss_cons (ps_for PassesOwn.never rfl (pi_tup (pv 2)) (pg_tup (by rfl) (pgs_cons (pg_name (i := 7) nd rfl (by first | exact Or.inl rfl | exact Or.inr rfl)) (pgs_cons (pg_name (i := 8) nd rfl (by first | exact Or.inl rfl | exact Or.inr rfl)) pgs_nil))) (pss_cons (ps_for PassesOwn.never rfl (pi_tup (pe_tup (pa_cons (pv 7) (pa_cons (pv 8) pa_nil)))) (pg_name (i := 9) nd rfl (Or.inl rfl)) (pss_cons (ps_if (PW.pt (pw_or (pt_cmpR op_lt (pv 9) pe_int (nomark _)) (pw_or1 (pt_cmpR op_ge (pv 9) (pv 1) (nomark _))))) (pss_cons ps_never pss_nil) pss_nil) pss_nil)) pss_nil)) (pss_cons (ps_set (i := 3) nd rfl (Or.inl rfl) (pe_call G_closure_T (hr.mono (by decide)) rfl g_closure_T k_closure_T b_closure_T .nil pass0 (pa_cons (pv 1) (pa_cons (pv 2) pa_nil)))) (pss_cons (ps_set (i := 4) nd rfl (Or.inl rfl) (pe_call G_first_ring (hr.mono (by decide)) rfl g_first_ring k_first_ring b_first_ring .nil pass0 (pa_cons (pv 3) pa_nil))) (pss_cons (ps_if (pt_cmpR op_notN (pv 4) pe_non (nomark _)) (pss_cons ps_never pss_nil) pss_nil) (pss_cons (ps_set (i := 5) nd rfl (Or.inl rfl) (pe_call G_bounds_table (hr.mono (by decide)) rfl g_bounds_table k_bounds_table b_bounds_table .nil pass0 (pa_cons (pv 3) pa_nil))) (pss_cons (ps_set (i := 4) nd rfl (Or.inl rfl) (pe_call G_first_lack (hr.mono (by decide)) rfl g_first_lack k_first_lack b_first_lack .nil pass0 (pa_cons (pv 5) pa_nil))) (pss_cons (ps_if (pt_cmpR op_notN (pv 4) pe_non (nomark _)) (pss_cons ps_never pss_nil) pss_nil) (pss_cons (ps_set (i := 6) nd rfl (Or.inl rfl) (pe_call G_bounds_table (hr.mono (by decide)) rfl g_bounds_table k_bounds_table b_bounds_table .nil pass0 (pa_cons (pe_call G_turned (hr.mono (by decide)) rfl g_turned k_turned b_turned .nil pass0 (pa_cons (pv 3) pa_nil)) pa_nil))) (pss_cons (ps_set (i := 4) nd rfl (Or.inl rfl) (pe_call G_first_lack (hr.mono (by decide)) rfl g_first_lack k_first_lack b_first_lack .nil pass0 (pa_cons (pv 6) pa_nil))) (pss_cons (ps_if (pt_cmpR op_notN (pv 4) pe_non (nomark _)) (pss_cons ps_never pss_nil) pss_nil) (pss_cons (ps_fld (pv 0) (pv 3) rfl) (pss_cons (ps_fld (pv 0) (pv 5) rfl) (pss_cons (ps_fld (pv 0) (pv 6) rfl) (pss_cons (ps_fld (pv 0) (pe_listRg (by rfl) (by rfl) (fr_list T) (prg_1 (by rfl) (fr_range T) (pv 1))) rfl) (pss_cons (ps_fld (pv 0) (pe_call G_longest (hr.mono (by decide)) rfl g_longest k_longest b_longest .nil pass0 (pa_cons (pv 3) pa_nil)) rfl) pss_nil)))))))))))))))), ?_⟩
    obtain ⟨b1105, hx1106, h⟩ := bindS h
    refine x_if w0 (et_orP (et_T (e_op rr_lt (e_var (R := rI) (x := size0) rfl rfl) e_int)) (et_T (e_op rr_gt (e_var (R := rI) (x := size0) rfl rfl) (e_conC (S := rI) (x := (12 : Int)) (j := 0) w0 rfl rfl (T.cls 35 rfl) c_Order_MOST (by decide +kernel) (fun _ => rfl))))) hx1106 ?_ ?_
    · intro hbb1105 H1107 w1108
      subst hbb1105
      exact absurd h (by simp)
    · intro hbb1105 H1109 w1110
      subst hbb1105
      refine x_next ?_
      obtain ⟨xs1111, hx1112, h⟩ := bindS h
      obtain ⟨t1114, hx1115, h⟩ := bindS h
      refine x_forT w1110 (e_var (R := (rT (rP rI rI))) (x := pairs0) rfl hpairs0) hx1112 (fun i G' H' σ' => ∃ s1116 : Unit, ∃ u1117 : Option V, ∃ u1118 : Option V, ∃ u1119 : Option V, Wo G H [l] G' H' [(l, cI (He.ga K "Order") [] [])] ∧ Evl.Ex G G' ∧ σ' = [some (V.ref l), some (V.int size0), some vpairs0, none, none, none, none, u1118, u1117, u1119] ∧ forS (m_Order___init___T_b1 size0) (xs1111.drop i) s1116 = some t1114) (fun _ _ _ _ ⟨_, _, _, _, w, _⟩ => w.ex) ?_ ?_ ?_
      · intro G' H' w' e'
        exact ⟨(), (none), (none), (none), w', e', rfl, hx1115⟩
      · rintro G1130 e1131 i1127 x1128 v1132 σ' G1123 H1126 hx1129 e1134 ⟨s1116, u1117, u1118, u1119, w1124, e1125, rfl, hm1121⟩ r1133
        obtain ⟨q1122, hb1120, hm1121⟩ := forS_at hx1129 hm1121
        have h1135 := Rep.mono _ e1125 hpairs0
        refine g_pair (i := 7) (j := 8) r1133 w1124.ex ?_
        intro v1136 v1137 r1138 r1139
        cases r1138
        cases r1139
        unfold m_Order___init___T_b1 at hb1120
        obtain ⟨xs1140, hx1141, hb1120⟩ := bindS hb1120
        obtain ⟨t1143, hx1144, hb1120⟩ := bindS hb1120
        refine x_forT w1124 (e_tupH (eal_cons (e_var (R := rI) (x := x1128.1) rfl rfl) (eal_cons (e_var (R := rI) (x := x1128.2) rfl rfl) eal_nil))) hx1141 (fun i G' H' σ' => ∃ s1145 : Unit, ∃ u1146 : Option V, Wo G H [l] G' H' [(l, cI (He.ga K "Order") [] [])] ∧ Evl.Ex G1123 G' ∧ σ' = [some (V.ref l), some (V.int size0), some vpairs0, none, none, none, none, some (V.int x1128.1), some (V.int x1128.2), u1146] ∧ forS (m_Order___init___T_b2 size0) (xs1140.drop i) s1145 = some t1143) (fun _ _ _ _ ⟨_, _, w, _⟩ => w.ex) ?_ ?_ ?_
        · intro G' H' w' e'
          exact ⟨(), (u1119), w', e', rfl, hx1144⟩
        · rintro G1157 e1158 i1154 x1155 v1159 σ' G1150 H1153 hx1156 e1161 ⟨s1145, u1146, w1151, e1152, rfl, hm1148⟩ r1160
          obtain ⟨q1149, hb1147, hm1148⟩ := forS_at hx1156 hm1148
          have h1162 := Rep.mono _ e1152 h1135
          refine g_name ?_
          cases r1160
          unfold m_Order___init___T_b2 at hb1147
          obtain ⟨b1163, hx1164, hb1147⟩ := bindS hb1147
          refine x_if w1151 (et_orP (et_T (e_op rr_lt (e_var (R := rI) (x := x1155) rfl rfl) e_int)) (et_T (e_op rr_ge (e_var (R := rI) (x := x1155) rfl rfl) (e_var (R := rI) (x := size0) rfl rfl)))) hx1164 ?_ ?_
          · intro hbb1163 H1165 w1166
            subst hbb1163
            exact absurd hb1147 (by simp)
          · intro hbb1163 H1167 w1168
            subst hbb1163
            refine x_next ?_
            refine x_next ?_
            have hb1147 : () = q1149 := Option.some.inj hb1147
            subst hb1147
            exact ⟨G1150, (e1161.trans (Evl.Ex.refl _)), (), (some (V.int x1155)), w1168, e1152, rfl, hm1148⟩
        · rintro σ' G1169 H1172 e1173 ⟨s1145, u1146, w1170, e1171, rfl, hm1148⟩
          have hm1148 := forS_end hm1148
          subst hm1148
          have h1175 := Rep.mono _ e1171 h1135
          refine x_next ?_
          have hb1120 : () = q1122 := Option.some.inj hb1120
          subst hb1120
          exact ⟨G1169, (e1134.trans e1171), (), (some (V.int x1128.2)), (some (V.int x1128.1)), (u1146), w1170, (e1125.trans e1171), rfl, hm1121⟩
      · rintro σ' G1176 H1179 e1180 ⟨s1116, u1117, u1118, u1119, w1177, e1178, rfl, hm1121⟩
        have hm1121 := forS_end hm1121
        subst hm1121
        have h1182 := Rep.mono _ e1178 hpairs0
        obtain ⟨above_1183, hx1184, h⟩ := bindS h
        refine x_set w1177 (e_call (ea_cons (e_var (R := rI) (x := size0) rfl rfl) (ea_cons (e_var (R := (rT (rP rI rI))) (x := pairs0) rfl h1182) ea_nil))) hx1184 ?_
        intro v1187 H1185 G1188 w1186 e1189 h1190
        have h1191 := Rep.mono _ e1189 h1182
        obtain ⟨bad_1192, hx1193, h⟩ := bindS h
        refine x_set w1186 (e_call (ea_cons (e_var (R := (rL (rL rB))) (x := above_1183) rfl h1190) ea_nil)) hx1193 ?_
        intro v1196 H1194 G1197 w1195 e1198 h1199
        have h1200 := Rep.mono _ e1198 h1191
        have h1201 := Rep.mono _ e1198 h1190
        obtain ⟨b1202, hx1203, h⟩ := bindS h
        refine x_if w1195 (et_T (e_op (rr_notN nnP) (e_var (R := (rO (rP rI rI))) (x := bad_1192) rfl (Rep.mono _ w1195.ex h1199)) e_non)) hx1203 ?_ ?_
        · intro hbb1202 H1204 w1205
          subst hbb1202
          exact absurd h (by simp)
        · intro hbb1202 H1206 w1207
          subst hbb1202
          refine x_next ?_
          obtain ⟨joins_1208, hx1209, h⟩ := bindS h
          refine x_set w1207 (e_call (ea_cons (e_var (R := (rL (rL rB))) (x := above_1183) rfl h1201) ea_nil)) hx1209 ?_
          intro v1212 H1210 G1213 w1211 e1214 h1215
          have h1216 := Rep.mono _ e1214 h1200
          have h1217 := Rep.mono _ e1214 h1201
          have h1218 := Rep.mono _ e1214 h1199
          obtain ⟨bad_1219, hx1220, h⟩ := bindS h
          refine x_set w1211 (e_call (ea_cons (e_var (R := (rL (rL (rO rI)))) (x := joins_1208) rfl h1215) ea_nil)) hx1220 ?_
          intro v1223 H1221 G1224 w1222 e1225 h1226
          have h1227 := Rep.mono _ e1225 h1216
          have h1228 := Rep.mono _ e1225 h1217
          have h1229 := Rep.mono _ e1225 h1218
          have h1230 := Rep.mono _ e1225 h1215
          obtain ⟨b1231, hx1232, h⟩ := bindS h
          refine x_if w1222 (et_T (e_op (rr_notN nnP) (e_var (R := (rO (rP rI rI))) (x := bad_1219) rfl (Rep.mono _ w1222.ex h1226)) e_non)) hx1232 ?_ ?_
          · intro hbb1231 H1233 w1234
            subst hbb1231
            exact absurd h (by simp)
          · intro hbb1231 H1235 w1236
            subst hbb1231
            refine x_next ?_
            obtain ⟨meets_1238, hx1239, h⟩ := bindS h
            refine x_set w1236 (e_call (ea_cons (e_call (ea_cons (e_var (R := (rL (rL rB))) (x := above_1183) rfl h1228) ea_nil)) ea_nil)) (by first | exact hx1239 | (simp only [Option.bind_eq_bind, Option.bind_some, Option.bind_assoc] at hx1239 ⊢; exact hx1239)) ?_
            intro v1242 H1240 G1243 w1241 e1244 h1245
            have h1246 := Rep.mono _ e1244 h1227
            have h1247 := Rep.mono _ e1244 h1228
            have h1248 := Rep.mono _ e1244 h1226
            have h1249 := Rep.mono _ e1244 h1230
            obtain ⟨bad_1250, hx1251, h⟩ := bindS h
            refine x_set w1241 (e_call (ea_cons (e_var (R := (rL (rL (rO rI)))) (x := meets_1238) rfl h1245) ea_nil)) hx1251 ?_
            intro v1254 H1252 G1255 w1253 e1256 h1257
            have h1258 := Rep.mono _ e1256 h1246
            have h1259 := Rep.mono _ e1256 h1247
            have h1260 := Rep.mono _ e1256 h1248
            have h1261 := Rep.mono _ e1256 h1249
            have h1262 := Rep.mono _ e1256 h1245
            obtain ⟨b1263, hx1264, h⟩ := bindS h
            refine x_if w1253 (et_T (e_op (rr_notN nnP) (e_var (R := (rO (rP rI rI))) (x := bad_1250) rfl (Rep.mono _ w1253.ex h1257)) e_non)) hx1264 ?_ ?_
            · intro hbb1263 H1265 w1266
              subst hbb1263
              exact absurd h (by simp)
            · intro hbb1263 H1267 w1268
              subst hbb1263
              refine x_next ?_
              obtain ⟨f1269, hx1270, h⟩ := bindS h
              refine x_fldN (j := 0) w1268 rfl rfl (e_var (R := (rL (rL rB))) (x := above_1183) rfl h1259) hx1270 (T.cls 35 rfl) (T.noat 36 rfl) (by decide +kernel) (by decide) ?_
              intro H1271 G1272 w1273 e1274
              have h1275 := Rep.mono _ e1274 h1258
              have h1276 := Rep.mono _ e1274 h1259
              have h1277 := Rep.mono _ e1274 h1257
              have h1278 := Rep.mono _ e1274 h1261
              have h1279 := Rep.mono _ e1274 h1262
              have w1273 : Wo G H [l] G1272 H1271 [(l, cI (He.ga K "Order") ["_above"] [pd (rL (rL rB)) f1269])] := w1273
              obtain ⟨f1280, hx1281, h⟩ := bindS h
              refine x_fldN (j := 0) w1273 rfl rfl (e_var (R := (rL (rL (rO rI)))) (x := joins_1208) rfl h1278) hx1281 (T.cls 35 rfl) (T.noat 37 rfl) (by decide +kernel) (by decide) ?_
              intro H1282 G1283 w1284 e1285
              have h1286 := Rep.mono _ e1285 h1275
              have h1287 := Rep.mono _ e1285 h1276
              have h1288 := Rep.mono _ e1285 h1277
              have h1289 := Rep.mono _ e1285 h1278
              have h1290 := Rep.mono _ e1285 h1279
              have w1284 : Wo G H [l] G1283 H1282 [(l, cI (He.ga K "Order") ["_above", "_joins"] [pd (rL (rL rB)) f1269, pd (rL (rL (rO rI))) f1280])] := w1284
              obtain ⟨f1291, hx1292, h⟩ := bindS h
              refine x_fldN (j := 0) w1284 rfl rfl (e_var (R := (rL (rL (rO rI)))) (x := meets_1238) rfl h1290) hx1292 (T.cls 35 rfl) (T.noat 38 rfl) (by decide +kernel) (by decide) ?_
              intro H1293 G1294 w1295 e1296
              have h1297 := Rep.mono _ e1296 h1286
              have h1298 := Rep.mono _ e1296 h1287
              have h1299 := Rep.mono _ e1296 h1288
              have h1300 := Rep.mono _ e1296 h1289
              have h1301 := Rep.mono _ e1296 h1290
              have w1295 : Wo G H [l] G1294 H1293 [(l, cI (He.ga K "Order") ["_above", "_joins", "_meets"] [pd (rL (rL rB)) f1269, pd (rL (rL (rO rI))) f1280, pd (rL (rL (rO rI))) f1291])] := w1295
              obtain ⟨f1302, hx1303, h⟩ := bindS h
              refine x_fldN (j := 0) w1295 rfl rfl (EL.e (el_listRg (e_var (R := rI) (x := size0) rfl rfl))) hx1303 (T.cls 35 rfl) (T.noat 39 rfl) (by decide +kernel) (by decide) ?_
              intro H1304 G1305 w1306 e1307
              have h1308 := Rep.mono _ e1307 h1297
              have h1309 := Rep.mono _ e1307 h1298
              have h1310 := Rep.mono _ e1307 h1299
              have h1311 := Rep.mono _ e1307 h1300
              have h1312 := Rep.mono _ e1307 h1301
              have w1306 : Wo G H [l] G1305 H1304 [(l, cI (He.ga K "Order") ["_above", "_joins", "_meets", "_members"] [pd (rL (rL rB)) f1269, pd (rL (rL (rO rI))) f1280, pd (rL (rL (rO rI))) f1291, pd (rL rI) f1302])] := w1306
              obtain ⟨f1313, hx1314, h⟩ := bindS h
              refine x_fldN (j := 0) w1306 rfl rfl (e_call (ea_cons (e_var (R := (rL (rL rB))) (x := above_1183) rfl h1309) ea_nil)) hx1314 (T.cls 35 rfl) (T.noat 40 rfl) (by decide +kernel) (by decide) ?_
              intro H1315 G1316 w1317 e1318
              have h1319 := Rep.mono _ e1318 h1308
              have h1320 := Rep.mono _ e1318 h1309
              have h1321 := Rep.mono _ e1318 h1310
              have h1322 := Rep.mono _ e1318 h1311
              have h1323 := Rep.mono _ e1318 h1312
              have w1317 : Wo G H [l] G1316 H1315 [(l, cI (He.ga K "Order") ["_above", "_joins", "_meets", "_members", "_height"] [pd (rL (rL rB)) f1269, pd (rL (rL (rO rI))) f1280, pd (rL (rL (rO rI))) f1291, pd (rL rI) f1302, pd rI f1313])] := w1317
              refine x_next ?_
              have h : (m_Order.mk f1269 f1280 f1291 f1302 f1313) = r := Option.some.inj h
              subst h
              exact k _ _ w1317.f (w1317.sub1 (i := 0) rfl)
def m_Order___init___C_b2 (size0 : Int) (x1370 : Int) (s1360 : Unit) : Option Unit :=
  (some ((decide (x1370 < (0 : Int))) || (decide (size0 ≤ x1370))) >>= fun b1377 => bif b1377 then none else some (()))
def m_Order___init___C_b1 (size0 : Int) (x1347 : (Int × Int)) (s1335 : Unit) : Option Unit :=
  (some ([x1347.1, x1347.2]) >>= fun xs1355 => forS (m_Order___init___C_b2 size0) xs1355 () >>= fun s1360 => some (()))
def m_Order___init___C (size0 : Int) (pairs0 : (List (Int × Int))) : Option m_Order :=
  (some ((decide (size0 < (1 : Int))) || (decide ((12 : Int) < size0))) >>= fun b1324 => bif b1324 then none else ( forS (m_Order___init___C_b1 size0) pairs0 () >>= fun s1335 => (m_closure_C size0 pairs0 >>= fun above_1394 => (m_first_ring above_1394 >>= fun bad_1402 => (some bad_1402.isSome >>= fun b1411 => bif b1411 then none else (m_bounds_table above_1394 >>= fun joins_1417 => (m_first_lack joins_1417 >>= fun bad_1427 => (some bad_1427.isSome >>= fun b1438 => bif b1438 then none else ((m_turned above_1394 >>= fun t1444 => m_bounds_table t1444) >>= fun meets_1445 => (m_first_lack meets_1445 >>= fun bad_1456 => (some bad_1456.isSome >>= fun b1468 => bif b1468 then none else (some above_1394 >>= fun f1474 => (some joins_1417 >>= fun f1484 => (some meets_1445 >>= fun f1494 => (rngM 0 size0 >>= fun f1504 => (m_longest above_1394 >>= fun f1514 => some (m_Order.mk f1474 f1484 f1494 f1504 f1514)))))))))))))))))
theorem sc_Order___init___C : FnScope ["self", "size", "pairs", "above", "bad", "joins", "meets", "low", "high", "value"] ["self", "size", "pairs"] (defScope s_Order___init__) := ⟨rfl, rfl, rfl, by decide +kernel, rfl, by decide +kernel, by decide +kernel⟩
theorem ok_Order___init___C (T : Tx K mg) : Fm P w K mg base CX0 3 "Order" "__init__" ["self", "size", "pairs"] (PIB (He.ga K "Order") (aC rI (aC rA aN)) (fun i => i.2.1) (rP rI rI) ns_Order (fl_Order K) (fun ys i => m_Order___init___C i.1 ys)) := by
  obtain ⟨fd_closure_C, G_closure_C, b_closure_C, k_closure_C, g_closure_C⟩ := ok_closure_C (P := P) (w := w) (base := base) T
  obtain ⟨fd_first_ring, G_first_ring, b_first_ring, k_first_ring, g_first_ring⟩ := ok_first_ring (P := P) (w := w) (base := base) T
  obtain ⟨fd_bounds_table, G_bounds_table, b_bounds_table, k_bounds_table, g_bounds_table⟩ := ok_bounds_table (P := P) (w := w) (base := base) T
  obtain ⟨fd_first_lack, G_first_lack, b_first_lack, k_first_lack, g_first_lack⟩ := ok_first_lack (P := P) (w := w) (base := base) T
  obtain ⟨fd_turned, G_turned, b_turned, k_turned, g_turned⟩ := ok_turned (P := P) (w := w) (base := base) T
  obtain ⟨fd_longest, G_longest, b_longest, k_longest, g_longest⟩ := ok_longest (P := P) (w := w) (base := base) T
  obtain ⟨u_Order_MOST, c_Order_MOST⟩ := T.con 0 (C := "Order") (f := "MOST") (v := .int 12) rfl
  obtain ⟨fd, F⟩ := T.def_ 8 rfl
  have nd := sc_Order___init___C.nd
  refine fm_mk F (fun _ _ _ _ _ _ us hl => match us, hl with | [_, _, _], _ => rfl) (F.ok sc_Order___init___C (fun vs H Q E h => ?_) (fun cdv A outer s H vs Q E hr h => ?_))
  · obtain ⟨G, l, _, ⟨size0, lb, ⟨⟩⟩, pairs0, r, rfl, wd, ⟨vsize0, _, rfl, hsize0, vpairs0, _, rfl, hpairs0, rfl⟩, L0, h, k⟩ := h
    rfl
  · obtain ⟨G, l, _, ⟨size0, lb, ⟨⟩⟩, pairs0, r, rfl, wd, ⟨vsize0, _, rfl, hsize0, vpairs0, _, rfl, hpairs0, rfl⟩, L0, h, k⟩ := h
    cases hsize0
    cases hpairs0
    have w0 : Wo G H [l] G H _ := Wo.startC wd
    have hl : lb ∉ [l] := L0.ne wd
    have h : m_Order___init___C size0 pairs0 = some r := h
    unfold m_Order___init___C at h
    refine ⟨_, PSs.nox (pss_cons (ps_if (PW.pt (pw_or (pt_cmpR op_lt (pv 1) pe_int (nomark _)) (pw_or1 (pt_cmpR op_gt (pv 1) (pe_con (pv 0) rfl) (nomark _))))) (pss_cons ps_never pss_nil) pss_nil) (pss_cons (ps_for PassesOwn.never rfl (show L2.PI _ _ _ (iList K _) from pi_list (pv 2)) (pg_tup (by rfl) (pgs_cons (pg_name (i := 7) nd rfl (by first | exact Or.inl rfl | exact Or.inr rfl)) (pgs_cons (pg_name (i := 8) nd rfl (by first | exact Or.inl rfl | exact Or.inr rfl)) pgs_nil))) (pss_cons (ps_for PassesOwn.never rfl (pi_tup (pe_tup (pa_cons (pv 7) (pa_cons (pv 8) pa_nil)))) (pg_name (i := 9) nd rfl (Or.inl rfl)) (pss_cons (ps_if (PW.pt (pw_or (pt_cmpR op_lt (pv 9) pe_int (nomark _)) (pw_or1 (pt_cmpR op_ge (pv 9) (pv 1) (nomark _))))) (pss_cons ps_never pss_nil) pss_nil) pss_nil)) pss_nil)) (pss_cons (ps_set (i := 3) nd rfl (Or.inl rfl) (pe_call G_closure_C (hr.mono (by decide)) rfl g_closure_C k_closure_C b_closure_C .nil pass0 (pa_cons (pv 1) (pa_cons (pv 2) pa_nil)))) (pss_cons (ps_set (i := 4) nd rfl (Or.inl rfl) (pe_call G_first_ring (hr.mono (by decide)) rfl g_first_ring k_first_ring b_first_ring .nil pass0 (pa_cons (pv 3) pa_nil))) (pss_cons (ps_if (pt_cmpR op_notN (pv 4) pe_non (nomark _)) (pss_cons ps_never pss_nil) pss_nil) (pss_cons (ps_set (i := 5) nd rfl (Or.inl rfl) (pe_call G_bounds_table (hr.mono (by decide)) rfl g_bounds_table k_bounds_table b_bounds_table .nil pass0 (pa_cons (pv 3) pa_nil))) (pss_cons (ps_set (i := 4) nd rfl (Or.inl rfl) (pe_call G_first_lack (hr.mono (by decide)) rfl g_first_lack k_first_lack b_first_lack .nil pass0 (pa_cons (pv 5) pa_nil))) (pss_cons (ps_if (pt_cmpR op_notN (pv 4) pe_non (nomark _)) (pss_cons ps_never pss_nil) pss_nil) (pss_cons (ps_set (i := 6) nd rfl (Or.inl rfl) (pe_call G_bounds_table (hr.mono (by decide)) rfl g_bounds_table k_bounds_table b_bounds_table .nil pass0 (pa_cons (pe_call G_turned (hr.mono (by decide)) rfl g_turned k_turned b_turned .nil pass0 (pa_cons (pv 3) pa_nil)) pa_nil))) (pss_cons (ps_set (i := 4) nd rfl (Or.inl rfl) (pe_call G_first_lack (hr.mono (by decide)) rfl g_first_lack k_first_lack b_first_lack .nil pass0 (pa_cons (pv 6) pa_nil))) (pss_cons (ps_if (pt_cmpR op_notN (pv 4) pe_non (nomark _)) (pss_cons ps_never pss_nil) pss_nil) (pss_cons (ps_fld (pv 0) (pv 3) rfl) (pss_cons (ps_fld (pv 0) (pv 5) rfl) (pss_cons (ps_fld (pv 0) (pv 6) rfl) (pss_cons (ps_fld (pv 0) (pe_listRg (by rfl) (by rfl) (fr_list T) (prg_1 (by rfl) (fr_range T) (pv 1))) rfl) (pss_cons (ps_fld (pv 0) (pe_call G_longest (hr.mono (by decide)) rfl g_longest k_longest b_longest .nil pass0 (pa_cons (pv 3) pa_nil)) rfl) pss_nil)))))))))))))))), ?_⟩
    obtain ⟨b1324, hx1325, h⟩ := bindS h
    refine x_if w0 (et_orP (et_T (e_op rr_lt (e_var (R := rI) (x := size0) rfl rfl) e_int)) (et_T (e_op rr_gt (e_var (R := rI) (x := size0) rfl rfl) (e_conC (S := rI) (x := (12 : Int)) (j := 0) w0 rfl rfl (T.cls 35 rfl) c_Order_MOST (by decide +kernel) (fun _ => rfl))))) hx1325 ?_ ?_
    · intro hbb1324 H1326 w1327
      subst hbb1324
      exact absurd h (by simp)
    · intro hbb1324 H1328 w1329
      subst hbb1324
      refine x_next ?_
      obtain ⟨t1333, hx1334, h⟩ := bindS h
      refine x_forN w1329 L0 hl rfl (fun i G' H' σ' => ∃ s1335 : Unit, ∃ u1336 : Option V, ∃ u1337 : Option V, ∃ u1338 : Option V, Wo G H [l] G' H' [(l, cI (He.ga K "Order") [] [])] ∧ Evl.Ex G G' ∧ σ' = [some (V.ref l), some (V.int size0), some (V.ref lb), none, none, none, none, u1337, u1336, u1338] ∧ forS (m_Order___init___C_b1 size0) (pairs0.drop i) s1335 = some t1333) (fun _ _ _ _ ⟨_, _, _, _, w, _⟩ => ⟨_, w⟩) ?_ ?_ ?_
      · exact ⟨(), (none), (none), (none), w1329, (Evl.Ex.refl _), rfl, hx1334⟩
      · rintro i1346 x1347 v1349 σ' G1342 H1345 hx1348 ⟨s1335, u1336, u1337, u1338, w1343, e1344, rfl, hm1340⟩ r1350
        obtain ⟨q1341, hb1339, hm1340⟩ := forS_at hx1348 hm1340
        refine g_pair (i := 7) (j := 8) r1350 w1343.ex ?_
        intro v1351 v1352 r1353 r1354
        cases r1353
        cases r1354
        unfold m_Order___init___C_b1 at hb1339
        obtain ⟨xs1355, hx1356, hb1339⟩ := bindS hb1339
        obtain ⟨t1358, hx1359, hb1339⟩ := bindS hb1339
        refine x_forT w1343 (e_tupH (eal_cons (e_var (R := rI) (x := x1347.1) rfl rfl) (eal_cons (e_var (R := rI) (x := x1347.2) rfl rfl) eal_nil))) hx1356 (fun i G' H' σ' => ∃ s1360 : Unit, ∃ u1361 : Option V, Wo G H [l] G' H' [(l, cI (He.ga K "Order") [] [])] ∧ Evl.Ex G1342 G' ∧ σ' = [some (V.ref l), some (V.int size0), some (V.ref lb), none, none, none, none, some (V.int x1347.1), some (V.int x1347.2), u1361] ∧ forS (m_Order___init___C_b2 size0) (xs1355.drop i) s1360 = some t1358) (fun _ _ _ _ ⟨_, _, w, _⟩ => w.ex) ?_ ?_ ?_
        · intro G' H' w' e'
          exact ⟨(), (u1338), w', e', rfl, hx1359⟩
        · rintro G1372 e1373 i1369 x1370 v1374 σ' G1365 H1368 hx1371 e1376 ⟨s1360, u1361, w1366, e1367, rfl, hm1363⟩ r1375
          obtain ⟨q1364, hb1362, hm1363⟩ := forS_at hx1371 hm1363
          refine g_name ?_
          cases r1375
          unfold m_Order___init___C_b2 at hb1362
          obtain ⟨b1377, hx1378, hb1362⟩ := bindS hb1362
          refine x_if w1366 (et_orP (et_T (e_op rr_lt (e_var (R := rI) (x := x1370) rfl rfl) e_int)) (et_T (e_op rr_ge (e_var (R := rI) (x := x1370) rfl rfl) (e_var (R := rI) (x := size0) rfl rfl)))) hx1378 ?_ ?_
          · intro hbb1377 H1379 w1380
            subst hbb1377
            exact absurd hb1362 (by simp)
          · intro hbb1377 H1381 w1382
            subst hbb1377
            refine x_next ?_
            refine x_next ?_
            have hb1362 : () = q1364 := Option.some.inj hb1362
            subst hb1362
            exact ⟨G1365, (e1376.trans (Evl.Ex.refl _)), (), (some (V.int x1370)), w1382, e1367, rfl, hm1363⟩
        · rintro σ' G1383 H1386 e1387 ⟨s1360, u1361, w1384, e1385, rfl, hm1363⟩
          have hm1363 := forS_end hm1363
          subst hm1363
          refine x_next ?_
          have hb1339 : () = q1341 := Option.some.inj hb1339
          subst hb1339
          exact ⟨G1383, (), (some (V.int x1347.2)), (some (V.int x1347.1)), (u1361), w1384, (e1344.trans e1385), rfl, hm1340⟩
      · rintro σ' G1389 H1392 ⟨s1335, u1336, u1337, u1338, w1390, e1391, rfl, hm1340⟩
        have hm1340 := forS_end hm1340
        subst hm1340
        obtain ⟨above_1394, hx1395, h⟩ := bindS h
        refine x_set w1390 (e_callB (ea_cons (e_var (R := rI) (x := size0) rfl rfl) (ea_cons (e_var (R := rA) (x := lb) rfl rfl) ea_nil)) (w1390.lentOf L0 hl) (fun _ h => by cases h; rfl)) hx1395 ?_
        intro v1398 H1396 G1399 w1397 e1400 h1401
        obtain ⟨bad_1402, hx1403, h⟩ := bindS h
        refine x_set w1397 (e_call (ea_cons (e_var (R := (rL (rL rB))) (x := above_1394) rfl h1401) ea_nil)) hx1403 ?_
        intro v1406 H1404 G1407 w1405 e1408 h1409
        have h1410 := Rep.mono _ e1408 h1401
        obtain ⟨b1411, hx1412, h⟩ := bindS h
        refine x_if w1405 (et_T (e_op (rr_notN nnP) (e_var (R := (rO (rP rI rI))) (x := bad_1402) rfl (Rep.mono _ w1405.ex h1409)) e_non)) hx1412 ?_ ?_
        · intro hbb1411 H1413 w1414
          subst hbb1411
          exact absurd h (by simp)
        · intro hbb1411 H1415 w1416
          subst hbb1411
          refine x_next ?_
          obtain ⟨joins_1417, hx1418, h⟩ := bindS h
          refine x_set w1416 (e_call (ea_cons (e_var (R := (rL (rL rB))) (x := above_1394) rfl h1410) ea_nil)) hx1418 ?_
          intro v1421 H1419 G1422 w1420 e1423 h1424
          have h1425 := Rep.mono _ e1423 h1410
          have h1426 := Rep.mono _ e1423 h1409
          obtain ⟨bad_1427, hx1428, h⟩ := bindS h
          refine x_set w1420 (e_call (ea_cons (e_var (R := (rL (rL (rO rI)))) (x := joins_1417) rfl h1424) ea_nil)) hx1428 ?_
          intro v1431 H1429 G1432 w1430 e1433 h1434
          have h1435 := Rep.mono _ e1433 h1425
          have h1436 := Rep.mono _ e1433 h1426
          have h1437 := Rep.mono _ e1433 h1424
          obtain ⟨b1438, hx1439, h⟩ := bindS h
          refine x_if w1430 (et_T (e_op (rr_notN nnP) (e_var (R := (rO (rP rI rI))) (x := bad_1427) rfl (Rep.mono _ w1430.ex h1434)) e_non)) hx1439 ?_ ?_
          · intro hbb1438 H1440 w1441
            subst hbb1438
            exact absurd h (by simp)
          · intro hbb1438 H1442 w1443
            subst hbb1438
            refine x_next ?_
            obtain ⟨meets_1445, hx1446, h⟩ := bindS h
            refine x_set w1443 (e_call (ea_cons (e_call (ea_cons (e_var (R := (rL (rL rB))) (x := above_1394) rfl h1435) ea_nil)) ea_nil)) (by first | exact hx1446 | (simp only [Option.bind_eq_bind, Option.bind_some, Option.bind_assoc] at hx1446 ⊢; exact hx1446)) ?_
            intro v1449 H1447 G1450 w1448 e1451 h1452
            have h1453 := Rep.mono _ e1451 h1435
            have h1454 := Rep.mono _ e1451 h1434
            have h1455 := Rep.mono _ e1451 h1437
            obtain ⟨bad_1456, hx1457, h⟩ := bindS h
            refine x_set w1448 (e_call (ea_cons (e_var (R := (rL (rL (rO rI)))) (x := meets_1445) rfl h1452) ea_nil)) hx1457 ?_
            intro v1460 H1458 G1461 w1459 e1462 h1463
            have h1464 := Rep.mono _ e1462 h1453
            have h1465 := Rep.mono _ e1462 h1454
            have h1466 := Rep.mono _ e1462 h1455
            have h1467 := Rep.mono _ e1462 h1452
            obtain ⟨b1468, hx1469, h⟩ := bindS h
            refine x_if w1459 (et_T (e_op (rr_notN nnP) (e_var (R := (rO (rP rI rI))) (x := bad_1456) rfl (Rep.mono _ w1459.ex h1463)) e_non)) hx1469 ?_ ?_
            · intro hbb1468 H1470 w1471
              subst hbb1468
              exact absurd h (by simp)
            · intro hbb1468 H1472 w1473
              subst hbb1468
              refine x_next ?_
              obtain ⟨f1474, hx1475, h⟩ := bindS h
              refine x_fldN (j := 0) w1473 rfl rfl (e_var (R := (rL (rL rB))) (x := above_1394) rfl h1464) hx1475 (T.cls 35 rfl) (T.noat 36 rfl) (by decide +kernel) (by decide) ?_
              intro H1476 G1477 w1478 e1479
              have h1480 := Rep.mono _ e1479 h1464
              have h1481 := Rep.mono _ e1479 h1463
              have h1482 := Rep.mono _ e1479 h1466
              have h1483 := Rep.mono _ e1479 h1467
              have w1478 : Wo G H [l] G1477 H1476 [(l, cI (He.ga K "Order") ["_above"] [pd (rL (rL rB)) f1474])] := w1478
              obtain ⟨f1484, hx1485, h⟩ := bindS h
              refine x_fldN (j := 0) w1478 rfl rfl (e_var (R := (rL (rL (rO rI)))) (x := joins_1417) rfl h1482) hx1485 (T.cls 35 rfl) (T.noat 37 rfl) (by decide +kernel) (by decide) ?_
              intro H1486 G1487 w1488 e1489
              have h1490 := Rep.mono _ e1489 h1480
              have h1491 := Rep.mono _ e1489 h1481
              have h1492 := Rep.mono _ e1489 h1482
              have h1493 := Rep.mono _ e1489 h1483
              have w1488 : Wo G H [l] G1487 H1486 [(l, cI (He.ga K "Order") ["_above", "_joins"] [pd (rL (rL rB)) f1474, pd (rL (rL (rO rI))) f1484])] := w1488
              obtain ⟨f1494, hx1495, h⟩ := bindS h
              refine x_fldN (j := 0) w1488 rfl rfl (e_var (R := (rL (rL (rO rI)))) (x := meets_1445) rfl h1493) hx1495 (T.cls 35 rfl) (T.noat 38 rfl) (by decide +kernel) (by decide) ?_
              intro H1496 G1497 w1498 e1499
              have h1500 := Rep.mono _ e1499 h1490
              have h1501 := Rep.mono _ e1499 h1491
              have h1502 := Rep.mono _ e1499 h1492
              have h1503 := Rep.mono _ e1499 h1493
              have w1498 : Wo G H [l] G1497 H1496 [(l, cI (He.ga K "Order") ["_above", "_joins", "_meets"] [pd (rL (rL rB)) f1474, pd (rL (rL (rO rI))) f1484, pd (rL (rL (rO rI))) f1494])] := w1498
              obtain ⟨f1504, hx1505, h⟩ := bindS h
              refine x_fldN (j := 0) w1498 rfl rfl (EL.e (el_listRg (e_var (R := rI) (x := size0) rfl rfl))) hx1505 (T.cls 35 rfl) (T.noat 39 rfl) (by decide +kernel) (by decide) ?_
              intro H1506 G1507 w1508 e1509
              have h1510 := Rep.mono _ e1509 h1500
              have h1511 := Rep.mono _ e1509 h1501
              have h1512 := Rep.mono _ e1509 h1502
              have h1513 := Rep.mono _ e1509 h1503
              have w1508 : Wo G H [l] G1507 H1506 [(l, cI (He.ga K "Order") ["_above", "_joins", "_meets", "_members"] [pd (rL (rL rB)) f1474, pd (rL (rL (rO rI))) f1484, pd (rL (rL (rO rI))) f1494, pd (rL rI) f1504])] := w1508
              obtain ⟨f1514, hx1515, h⟩ := bindS h
              refine x_fldN (j := 0) w1508 rfl rfl (e_call (ea_cons (e_var (R := (rL (rL rB))) (x := above_1394) rfl h1510) ea_nil)) hx1515 (T.cls 35 rfl) (T.noat 40 rfl) (by decide +kernel) (by decide) ?_
              intro H1516 G1517 w1518 e1519
              have h1520 := Rep.mono _ e1519 h1510
              have h1521 := Rep.mono _ e1519 h1511
              have h1522 := Rep.mono _ e1519 h1512
              have h1523 := Rep.mono _ e1519 h1513
              have w1518 : Wo G H [l] G1517 H1516 [(l, cI (He.ga K "Order") ["_above", "_joins", "_meets", "_members", "_height"] [pd (rL (rL rB)) f1474, pd (rL (rL (rO rI))) f1484, pd (rL (rL (rO rI))) f1494, pd (rL rI) f1504, pd rI f1514])] := w1518
              refine x_next ?_
              have h : (m_Order.mk f1474 f1484 f1494 f1504 f1514) = r := Option.some.inj h
              subst h
              exact k _ _ w1518.f (w1518.sub1 (i := 0) rfl)
def m_Order__require_b1 (self0 : m_Order) (x1539 : Int) (s1529 : Unit) : Option Unit :=
  (some ((decide (x1539 < (0 : Int))) || (decide ((self0.f_members.length : Int) ≤ x1539))) >>= fun b1547 => bif b1547 then none else some (()))
def m_Order__require (self0 : m_Order) (first0 : Int) (second0 : Int) : Option Unit :=
  (some ([first0, second0]) >>= fun xs1524 => forS (m_Order__require_b1 self0) xs1524 () >>= fun s1529 => some ())
theorem sc_Order__require : FnScope ["self", "first", "second", "value"] ["self", "first", "second"] (defScope s_Order__require) := ⟨rfl, rfl, rfl, by decide +kernel, rfl, by decide +kernel, by decide +kernel⟩
theorem ok_Order__require (T : Tx K mg) : Fm P w K mg base CX0 1 "Order" "_require" ["self", "first", "second"] (PF (aC (r_Order K) (aC rI (aC rI aN))) rU (fun i => m_Order__require i.1 i.2.1 i.2.2.1)) := by
  obtain ⟨fd, F⟩ := T.def_ 9 rfl
  have nd := sc_Order__require.nd
  refine fm_mk F (fun _ _ _ _ _ _ us hl => match us, hl with | [_, _, _], _ => rfl) (F.ok sc_Order__require (fun vs H Q E h => ?_) (fun cdv A outer s H vs Q E hr h => ?_))
  · obtain ⟨G, ⟨self0, first0, second0, ⟨⟩⟩, r, e0, ⟨vself0, _, rfl, hself0, vfirst0, _, rfl, hfirst0, vsecond0, _, rfl, hsecond0, rfl⟩, h, k⟩ := h
    rfl
  · obtain ⟨G, ⟨self0, first0, second0, ⟨⟩⟩, r, e0, ⟨vself0, _, rfl, hself0, vfirst0, _, rfl, hfirst0, vsecond0, _, rfl, hsecond0, rfl⟩, h, k⟩ := h
    cases hfirst0
    cases hsecond0
    have w0 := Wo.start e0
    have h : m_Order__require self0 first0 second0 = some r := h
    unfold m_Order__require at h
    refine ⟨_, PSs.nox (pss_cons (ps_for PassesOwn.never rfl (pi_tup (pe_tup (pa_cons (pv 1) (pa_cons (pv 2) pa_nil)))) (pg_name (i := 3) nd rfl (Or.inl rfl)) (pss_cons (ps_if (PW.pt (pw_or (pt_cmpR op_lt (pv 3) pe_int (nomark _)) (pw_or1 (pt_cmpR op_ge (pv 3) (pe_callB (r := rLn K) call_len_seq (by rfl) (fr_len T) (by decide +kernel) (pa_cons (pe_fld (pv 0) rfl) pa_nil)) (nomark _))))) (pss_cons ps_never pss_nil) pss_nil) pss_nil)) pss_nil), ?_⟩
    obtain ⟨xs1524, hx1525, h⟩ := bindS h
    obtain ⟨t1527, hx1528, h⟩ := bindS h
    refine x_forT w0 (e_tupH (eal_cons (e_var (R := rI) (x := first0) rfl rfl) (eal_cons (e_var (R := rI) (x := second0) rfl rfl) eal_nil))) hx1525 (fun i G' H' σ' => ∃ s1529 : Unit, ∃ u1530 : Option V, Wo G H [] G' H' [] ∧ Evl.Ex G G' ∧ σ' = [some vself0, some (V.int first0), some (V.int second0), u1530] ∧ forS (m_Order__require_b1 self0) (xs1524.drop i) s1529 = some t1527) (fun _ _ _ _ ⟨_, _, w, _⟩ => w.ex) ?_ ?_ ?_
    · intro G' H' w' e'
      exact ⟨(), (none), w', e', rfl, hx1528⟩
    · rintro G1541 e1542 i1538 x1539 v1543 σ' G1534 H1537 hx1540 e1545 ⟨s1529, u1530, w1535, e1536, rfl, hm1532⟩ r1544
      obtain ⟨q1533, hb1531, hm1532⟩ := forS_at hx1540 hm1532
      have h1546 := Rep.mono _ e1536 hself0
      refine g_name ?_
      cases r1544
      unfold m_Order__require_b1 at hb1531
      obtain ⟨b1547, hx1548, hb1531⟩ := bindS hb1531
      refine x_if w1535 (et_orP (et_T (e_op rr_lt (e_var (R := rI) (x := x1539) rfl rfl) e_int)) (et_T (e_op rr_ge (e_var (R := rI) (x := x1539) rfl rfl) (e_cb rc_lenL (ea_cons (e_fld 3 (fun o => o.f_members) (e_var (R := (r_Order K)) (x := self0) rfl (Rep.mono _ w1535.ex h1546)) (T.cls 35 rfl) (T.noat 39 rfl) (by decide +kernel) (fun _ => rfl)) ea_nil))))) hx1548 ?_ ?_
      · intro hbb1547 H1549 w1550
        subst hbb1547
        exact absurd hb1531 (by simp)
      · intro hbb1547 H1551 w1552
        subst hbb1547
        refine x_next ?_
        refine x_next ?_
        have hb1531 : () = q1533 := Option.some.inj hb1531
        subst hb1531
        exact ⟨G1534, (e1545.trans (Evl.Ex.refl _)), (), (some (V.int x1539)), w1552, e1536, rfl, hm1532⟩
    · rintro σ' G1553 H1556 e1557 ⟨s1529, u1530, w1554, e1555, rfl, hm1532⟩
      have hm1532 := forS_end hm1532
      subst hm1532
      have h1559 := Rep.mono _ e1555 hself0
      refine x_next ?_
      have h : () = r := Option.some.inj h
      subst h
      exact k _ _ _ w1554.upE rfl
def m_Order_below (self0 : m_Order) (first0 : Int) (second0 : Int) : Option Bool :=
  (m_Order__require self0 first0 second0 >>= fun a1560 => ((atI self0.f_above first0 >>= fun t1564 => atI t1564 second0) >>= fun a1565 => some a1565))
theorem sc_Order_below : FnScope ["self", "first", "second"] ["self", "first", "second"] (defScope s_Order_below) := ⟨rfl, rfl, rfl, by decide +kernel, rfl, by decide +kernel, by decide +kernel⟩
theorem ok_Order_below (T : Tx K mg) : Fm P w K mg base CX0 2 "Order" "below" ["self", "first", "second"] (PF (aC (r_Order K) (aC rI (aC rI aN))) rB (fun i => m_Order_below i.1 i.2.1 i.2.2.1)) := by
  obtain ⟨fd_Order__require, G_Order__require, b_Order__require⟩ := ok_Order__require (P := P) (w := w) (base := base) T
  obtain ⟨fd, F⟩ := T.def_ 10 rfl
  have nd := sc_Order_below.nd
  refine fm_mk F (fun _ _ _ _ _ _ us hl => match us, hl with | [_, _, _], _ => rfl) (F.ok sc_Order_below (fun vs H Q E h => ?_) (fun cdv A outer s H vs Q E hr h => ?_))
  · obtain ⟨G, ⟨self0, first0, second0, ⟨⟩⟩, r, e0, ⟨vself0, _, rfl, hself0, vfirst0, _, rfl, hfirst0, vsecond0, _, rfl, hsecond0, rfl⟩, h, k⟩ := h
    rfl
  · obtain ⟨G, ⟨self0, first0, second0, ⟨⟩⟩, r, e0, ⟨vself0, _, rfl, hself0, vfirst0, _, rfl, hfirst0, vsecond0, _, rfl, hsecond0, rfl⟩, h, k⟩ := h
    cases hfirst0
    cases hsecond0
    have w0 := Wo.start e0
    have h : m_Order_below self0 first0 second0 = some r := h
    unfold m_Order_below at h
    refine ⟨_, PSs.nox (pss_cons (ps_expr (pe_meth (pv 0) (T.cls 35 rfl) (T.meth 41 rfl) G_Order__require (hr.mono (by decide)) b_Order__require .nil pass0 (pa_cons (pv 1) (pa_cons (pv 2) pa_nil)))) (pss_cons (ps_ret (pe_ix (r := rIxL K) ix_list (pe_ix (r := rIxL K) ix_list (pe_fld (pv 0) rfl) (pv 1) (fun _ _ => rfl)) (pv 2) (fun _ _ => rfl))) pss_nil)), ?_⟩
    obtain ⟨a1560, hx1561, h⟩ := bindS h
    refine x_call w0 (e_meth (e_var (R := (r_Order K)) (x := self0) rfl hself0) (ea_cons (e_var (R := rI) (x := first0) rfl rfl) (ea_cons (e_var (R := rI) (x := second0) rfl rfl) ea_nil)) (by decide +kernel)) hx1561 ?_
    intro H1562 w1563
    obtain ⟨a1565, hx1566, h⟩ := bindS h
    have h : a1565 = r := Option.some.inj h
    subst h
    exact x_ret w1563 (e_op rr_ixL (e_op rr_ixL (e_fld 0 (fun o => o.f_above) (e_var (R := (r_Order K)) (x := self0) rfl hself0) (T.cls 35 rfl) (T.noat 36 rfl) (by decide +kernel) (fun _ => rfl)) (e_var (R := rI) (x := first0) rfl rfl)) (e_var (R := rI) (x := second0) rfl rfl)) (by first | exact hx1566 | (simp only [Option.bind_eq_bind, Option.bind_some, Option.bind_assoc] at hx1566 ⊢; exact hx1566)) (fun v9 H9 G9 w9 e9 r9 => k v9 H9 G9 w9.upE r9)
def m__law_pot_b2 (x1686 : Int) (s1676 : ((List Int) × Int)) : Option ((List Int) × Int) :=
  ((some ((decide ((0 : Int) < s1676.2)) || (x1686 == (0 : Int))) >>= fun b1689 => bif b1689 then (modM s1676.2 (100 : Int) >>= fun a1708 => appM s1676.1 a1708 >>= fun pot_here_1709 => some pot_here_1709) else some s1676.1) >>= fun s1700 => (fdivM s1676.2 (100 : Int) >>= fun rest_1723 => some ((s1700, rest_1723))))
def m__law_pot_b1 (script0 : (List Int)) (x1596 : Int) (s1583 : (List Int)) : Option (List Int) :=
  ((atI script0 x1596 >>= fun t1599 => some (if t1599 < 0 then -t1599 else t1599)) >>= fun rest_1600 => (some (60 : Int) >>= fun many_1604 => (((powM (10 : Int) (18 : Int) >>= fun t1608 => some (decide (rest_1600 < t1608))) >>= fun b1609 => bif b1609 then ((((mulM (2 : Int) rest_1600 >>= fun t1643 => (((atI script0 x1596 >>= fun t1641 => some (decide (t1641 < (0 : Int)))) >>= fun t1642 => some (if t1642 = true then (1 : Int) else 0)) >>= fun t1644 => some (t1643 + t1644))) >>= fun t1646 => ((mulM (2 : Int) x1596 >>= fun t1645 => some ((48271 : Int) + t1645)) >>= fun t1647 => mulM t1646 t1647)) >>= fun t1648 => modM t1648 (2147483647 : Int)) >>= fun rest_1649 => (((mulM rest_1649 rest_1649 >>= fun t1653 => (mulM rest_1649 x1596 >>= fun t1654 => some (t1653 + t1654))) >>= fun t1655 => modM t1655 (2147483629 : Int)) >>= fun rest_1656 => (some (4 : Int) >>= fun many_1660 => some (many_1660, rest_1656)))) else some (many_1604, rest_1600)) >>= fun s1633 => (some s1633.1 >>= fun n1669 => rngM 0 n1669 >>= fun xs1671 => forS (m__law_pot_b2) xs1671 (s1583, s1633.2) >>= fun s1676 => some (s1676.1)))))
def m__law_pot (script0 : (List Int)) : Option (List Int) :=
  (some ([]) >>= fun pot_here_1567 => (some (if (63 : Int) < (script0.length : Int) then (63 : Int) else (script0.length : Int)) >>= fun n1576 => rngM 0 n1576 >>= fun xs1578 => forS (m__law_pot_b1 script0) xs1578 pot_here_1567 >>= fun s1583 => (some (s1583.reverse) >>= fun pot_here_1739 => some s1583.reverse)))
theorem sc__law_pot : FnScope ["_law_script", "_law_pot_here", "_law_place", "_law_rest", "_law_many", "_law_k"] ["_law_script"] (defScope s__law_pot) := ⟨rfl, rfl, rfl, by decide +kernel, rfl, by decide +kernel, by decide +kernel⟩
theorem ok__law_pot (T : Tx K mg) : Fk P w K mg base CX0 1 "_law_pot" ["_law_script"] (PL (aC (rScr K) aN) rI (fun i => m__law_pot i.1)) := by
  obtain ⟨fd, F⟩ := T.def_ 11 rfl
  have nd := sc__law_pot.nd
  refine fk_mk T.toTx (x := "_law_pot") (T.glo 16 rfl) F (fun _ _ _ _ _ _ us hl => match us, hl with | [_], _ => rfl) (F.ok sc__law_pot (fun vs H Q E h => ?_) (fun cdv A outer s H vs Q E hr h => ?_))
  · obtain ⟨G, ⟨script0, ⟨⟩⟩, r, e0, ⟨vscript0, _, rfl, hscript0, rfl⟩, h, k⟩ := h
    rfl
  · obtain ⟨G, ⟨script0, ⟨⟩⟩, r, e0, ⟨vscript0, _, rfl, hscript0, rfl⟩, h, k⟩ := h
    have w0 := Wo.start e0
    have h : m__law_pot script0 = some r := h
    unfold m__law_pot at h
    refine ⟨_, PSs.nox (pss_cons (ps_set (i := 1) nd rfl (Or.inl rfl) (pe_lst pa_nil)) (pss_cons (ps_for PassesOwn.never rfl (pi_range1 (by rfl) (fr_range T) (pa_cons (pe_callB (call_min2 rfl) (by rfl) (fr_min T) (by decide +kernel) (pa_cons (pe_callB (r := rLn K) call_len_seq (by rfl) (fr_len T) (by decide +kernel) (pa_cons (pv 0) pa_nil)) (pa_cons pe_int pa_nil))) pa_nil)) (pg_name (i := 2) nd rfl (Or.inl rfl)) (pss_cons (ps_set (i := 3) nd rfl (Or.inl rfl) (pe_callB call_abs (by rfl) (fr_abs T) (by decide +kernel) (pa_cons (pe_ix (r := rIxL K) ix_list (pv 0) (pv 2) (fun _ _ => rfl)) pa_nil))) (pss_cons (ps_set (i := 4) nd rfl (Or.inl rfl) pe_int) (Evl.pss_cut (ps_if (pt_cmpR op_lt (pv 3) (pe_op op_pow pe_int pe_int) (nomark _)) (pss_cons (ps_set (i := 3) nd rfl (Or.inl rfl) (pe_op op_mod (pe_callTy call_int1 (by rfl) (fr_int T) (by decide +kernel) (pa_cons (pe_op op_mul (pe_op op_add (pe_op op_mul pe_int (pv 3)) (pe_callTy call_int1 (by rfl) (fr_int T) (by decide +kernel) (pa_cons (pe_cmpR op_lt (pe_ix (r := rIxL K) ix_list (pv 0) (pv 2) (fun _ _ => rfl)) pe_int (nomark _)) pa_nil))) (pe_op op_add pe_int (pe_op op_mul pe_int (pv 2)))) pa_nil)) pe_int)) (pss_cons (ps_set (i := 3) nd rfl (Or.inl rfl) (pe_op op_mod (pe_callTy call_int1 (by rfl) (fr_int T) (by decide +kernel) (pa_cons (pe_op op_add (pe_op op_mul (pv 3) (pv 3)) (pe_op op_mul (pv 3) (pv 2))) pa_nil)) pe_int)) (pss_cons (ps_set (i := 4) nd rfl (Or.inl rfl) pe_int) pss_nil))) pss_nil) (pss_cons (ps_for PassesOwn.never rfl (pi_range1 (by rfl) (fr_range T) (pa_cons (pv 4) pa_nil)) (pg_name (i := 5) nd rfl (Or.inl rfl)) (Evl.pss_cut (ps_if (PW.pt (pw_or (pt_cmpR op_gt (pv 3) pe_int (nomark _)) (pw_or1 (pt_cmpR op_eq (pv 5) pe_int (nomark _))))) (pss_cons (ps_expr (pe_bm PySem.F.plainAttrs_list PySem.F.slot_list_append PySem.F.type_list_append mt_append (pv 1) (pa_cons (pe_op op_mod (pe_callTy call_int1 (by rfl) (fr_int T) (by decide +kernel) (pa_cons (pv 3) pa_nil)) pe_int) pa_nil))) pss_nil) pss_nil) (pss_cons (ps_set (i := 3) nd rfl (Or.inl rfl) (pe_op op_fdiv (pv 3) pe_int)) pss_nil))) pss_nil))))) (pss_cons (ps_expr (pe_bm0 PySem.F.plainAttrs_list PySem.F.slot_list_reverse PySem.F.type_list_reverse mt_reverse (pv 1))) (pss_cons (ps_ret (pv 1)) pss_nil)))), ?_⟩
    obtain ⟨pot_here_1567, hx1568, h⟩ := bindS h
    refine x_setL w0 (el_disp (R := rI) eal_nil) hx1568 ?_
    intro p1571 H1569 G1572 n1573 w1570 e1574
    have h1575 := Rep.mono _ e1574 hscript0
    obtain ⟨n1576, hx1577, h⟩ := bindS h
    obtain ⟨xs1578, hx1579, h⟩ := bindS h
    obtain ⟨t1581, hx1582, h⟩ := bindS h
    refine x_forR w1570 (ea_cons (Sim.E.is (e_cb rc_min2 (ea_cons (e_cb rc_lenScr (ea_cons (e_var (R := (rScr K)) (x := script0) rfl h1575) ea_nil)) (ea_cons e_int ea_nil))) hx1577) ea_nil) rfl hx1579 (fun i G' H' σ' => ∃ s1583 : (List Int), ∃ u1584 : Option V, ∃ u1585 : Option V, ∃ u1586 : Option V, ∃ u1587 : Option V, Wo G H [] G' H' [(p1571, cL rI s1583)] ∧ Evl.Ex G1572 G' ∧ σ' = [some vscript0, some (V.ref p1571), u1586, u1587, u1585, u1584] ∧ forS (m__law_pot_b1 script0) (xs1578.drop i) s1583 = some t1581) ?_ ?_ ?_
    · intro G' H' w' e'
      exact ⟨pot_here_1567, (none), (none), (none), (none), w', e', rfl, hx1582⟩
    · rintro i1595 x1596 σ' G1591 H1594 hx1597 ⟨s1583, u1584, u1585, u1586, u1587, w1592, e1593, rfl, hm1589⟩
      obtain ⟨q1590, hb1588, hm1589⟩ := forS_at hx1597 hm1589
      have h1598 := Rep.mono _ e1593 h1575
      refine g_name ?_
      unfold m__law_pot_b1 at hb1588
      obtain ⟨rest_1600, hx1601, hb1588⟩ := bindS hb1588
      refine x_setI w1592 (e_cb rc_abs (ea_cons (e_op rr_ixScr (e_var (R := (rScr K)) (x := script0) rfl h1598) (e_var (R := rI) (x := x1596) rfl rfl)) ea_nil)) (by first | exact hx1601 | (simp only [Option.bind_eq_bind, Option.bind_some, Option.bind_assoc] at hx1601 ⊢; exact hx1601)) ?_
      intro H1602 w1603
      obtain ⟨many_1604, hx1605, hb1588⟩ := bindS hb1588
      refine x_setI w1603 e_int hx1605 ?_
      intro H1606 w1607
      obtain ⟨s1633, hx1634, hb1588⟩ := bindS hb1588
      refine o_cut (fun σ' H' => ∃ G' : Hp, Wo G H [] G' H' [(p1571, cL rI s1583)] ∧ Evl.Ex G1591 G' ∧ σ' = [some vscript0, some (V.ref p1571), some (V.int x1596), some (V.int s1633.2), some (V.int s1633.1), u1584]) ?_ ?_
      · obtain ⟨b1609, hx1638, hx1634⟩ := bindS hx1634
        refine x_if w1607 (et_T (e_op rr_lt (e_var (R := rI) (x := rest_1600) rfl rfl) (e_op rr_pow e_int e_int))) (by first | exact hx1638 | (simp only [Option.bind_eq_bind, Option.bind_some, Option.bind_assoc] at hx1638 ⊢; exact hx1638)) ?_ ?_
        · intro hbb1609 H1639 w1640
          subst hbb1609
          obtain ⟨rest_1649, hx1650, hx1634⟩ := bindS hx1634
          refine x_setI w1640 (e_op rr_mod (e_cb rc_intI (ea_cons (e_op rr_mul (e_op rr_add (e_op rr_mul e_int (e_var (R := rI) (x := rest_1600) rfl rfl)) (e_cb rc_intB (ea_cons (e_op rr_lt (e_op rr_ixScr (e_var (R := (rScr K)) (x := script0) rfl h1598) (e_var (R := rI) (x := x1596) rfl rfl)) e_int) ea_nil))) (e_op rr_add e_int (e_op rr_mul e_int (e_var (R := rI) (x := x1596) rfl rfl)))) ea_nil)) e_int) (by first | exact hx1650 | (simp only [Option.bind_eq_bind, Option.bind_some, Option.bind_assoc] at hx1650 ⊢; exact hx1650)) ?_
          intro H1651 w1652
          obtain ⟨rest_1656, hx1657, hx1634⟩ := bindS hx1634
          refine x_setI w1652 (e_op rr_mod (e_cb rc_intI (ea_cons (e_op rr_add (e_op rr_mul (e_var (R := rI) (x := rest_1649) rfl rfl) (e_var (R := rI) (x := rest_1649) rfl rfl)) (e_op rr_mul (e_var (R := rI) (x := rest_1649) rfl rfl) (e_var (R := rI) (x := x1596) rfl rfl))) ea_nil)) e_int) (by first | exact hx1657 | (simp only [Option.bind_eq_bind, Option.bind_some, Option.bind_assoc] at hx1657 ⊢; exact hx1657)) ?_
          intro H1658 w1659
          obtain ⟨many_1660, hx1661, hx1634⟩ := bindS hx1634
          refine x_setI w1659 e_int hx1661 ?_
          intro H1662 w1663
          refine x_next ?_
          have hx1634 : (many_1660, rest_1656) = s1633 := Option.some.inj hx1634
          subst hx1634
          exact ⟨G1591, w1663, (Evl.Ex.refl _), rfl⟩
        · intro hbb1609 H1664 w1665
          subst hbb1609
          refine x_next ?_
          have hx1634 : (many_1604, rest_1600) = s1633 := Option.some.inj hx1634
          subst hx1634
          exact ⟨G1591, w1665, (Evl.Ex.refl _), rfl⟩
      · rintro σ' H1668 ⟨G1666, w1636, e1635, rfl⟩
        have h1667 := Rep.mono _ e1635 h1598
        obtain ⟨n1669, hx1670, hb1588⟩ := bindS hb1588
        obtain ⟨xs1671, hx1672, hb1588⟩ := bindS hb1588
        obtain ⟨t1674, hx1675, hb1588⟩ := bindS hb1588
        refine x_forR w1636 (ea_cons (Sim.E.is (e_var (R := rI) (x := s1633.1) rfl rfl) hx1670) ea_nil) rfl hx1672 (fun i G' H' σ' => ∃ s1676 : ((List Int) × Int), ∃ u1677 : Option V, Wo G H [] G' H' [(p1571, cL rI s1676.1)] ∧ Evl.Ex G1666 G' ∧ σ' = [some vscript0, some (V.ref p1571), some (V.int x1596), some (V.int s1676.2), some (V.int s1633.1), u1677] ∧ forS (m__law_pot_b2) (xs1671.drop i) s1676 = some t1674) ?_ ?_ ?_
        · intro G' H' w' e'
          exact ⟨(s1583, s1633.2), (u1584), w', e', rfl, hx1675⟩
        · rintro i1685 x1686 σ' G1681 H1684 hx1687 ⟨s1676, u1677, w1682, e1683, rfl, hm1679⟩
          obtain ⟨q1680, hb1678, hm1679⟩ := forS_at hx1687 hm1679
          have h1688 := Rep.mono _ e1683 h1667
          refine g_name ?_
          unfold m__law_pot_b2 at hb1678
          obtain ⟨s1700, hx1701, hb1678⟩ := bindS hb1678
          refine o_cut (fun σ' H' => ∃ G' : Hp, Wo G H [] G' H' [(p1571, cL rI s1700)] ∧ Evl.Ex G1681 G' ∧ σ' = [some vscript0, some (V.ref p1571), some (V.int x1596), some (V.int s1676.2), some (V.int s1633.1), some (V.int x1686)]) ?_ ?_
          · obtain ⟨b1689, hx1705, hx1701⟩ := bindS hx1701
            refine x_if w1682 (et_orP (et_T (e_op rr_gt (e_var (R := rI) (x := s1676.2) rfl rfl) e_int)) (et_T (e_op rr_eqI (e_var (R := rI) (x := x1686) rfl rfl) e_int))) hx1705 ?_ ?_
            · intro hbb1689 H1706 w1707
              subst hbb1689
              obtain ⟨a1708, hx1710, hx1701⟩ := bindS hx1701
              obtain ⟨pot_here_1709, hx1711, hx1701⟩ := bindS hx1701
              obtain ⟨hs1712, rfl⟩ := appM_ok hx1711
              refine x_app (j := 0) w1707 rfl hs1712 rfl (e_op rr_mod (e_cb rc_intI (ea_cons (e_var (R := rI) (x := s1676.2) rfl rfl) ea_nil)) e_int) hx1710 ?_
              intro H1713 G1714 w1715 e1716
              have h1717 := Rep.mono _ e1716 h1688
              have w1715 : Wo G H [] G1714 H1713 [(p1571, cL rI (s1676.1 ++ [a1708]))] := w1715
              refine x_next ?_
              have hx1701 : (s1676.1 ++ [a1708]) = s1700 := Option.some.inj hx1701
              subst hx1701
              exact ⟨G1714, w1715, e1716, rfl⟩
            · intro hbb1689 H1718 w1719
              subst hbb1689
              refine x_next ?_
              have hx1701 : s1676.1 = s1700 := Option.some.inj hx1701
              subst hx1701
              exact ⟨G1681, w1719, (Evl.Ex.refl _), rfl⟩
          · rintro σ' H1722 ⟨G1720, w1703, e1702, rfl⟩
            have h1721 := Rep.mono _ e1702 h1688
            obtain ⟨rest_1723, hx1724, hb1678⟩ := bindS hb1678
            refine x_setI w1703 (e_op rr_fdiv (e_var (R := rI) (x := s1676.2) rfl rfl) e_int) hx1724 ?_
            intro H1725 w1726
            refine x_next ?_
            have hb1678 : (s1700, rest_1723) = q1680 := Option.some.inj hb1678
            subst hb1678
            exact ⟨G1720, (s1700, rest_1723), (some (V.int x1686)), w1726, (e1683.trans e1702), rfl, hm1679⟩
        · rintro σ' G1727 H1730 ⟨s1676, u1677, w1728, e1729, rfl, hm1679⟩
          have hm1679 := forS_end hm1679
          subst hm1679
          have h1732 := Rep.mono _ e1729 h1667
          refine x_next ?_
          have hb1588 : s1676.1 = q1590 := Option.some.inj hb1588
          subst hb1588
          exact ⟨G1727, s1676.1, (u1677), (some (V.int s1633.1)), (some (V.int x1596)), (some (V.int s1676.2)), w1728, ((e1593.trans e1635).trans e1729), rfl, hm1589⟩
    · rintro σ' G1733 H1736 ⟨s1583, u1584, u1585, u1586, u1587, w1734, e1735, rfl, hm1589⟩
      have hm1589 := forS_end hm1589
      subst hm1589
      have h1738 := Rep.mono _ e1735 h1575
      refine x_drop ?_
      obtain ⟨pot_here_1739, hx1740, h⟩ := bindS h
      cases hx1740
      refine o_bm0 (j := 0) w1734 rfl rfl (c_rev (j := 0) w1734 rfl ?_)
      intro H1741 w1742
      have w1742 : Wo G H [] G1733 H1741 [(p1571, cL rI s1583.reverse)] := w1742
      have h : s1583.reverse = r := Option.some.inj h
      subst h
      refine x_retO (o_var rfl ?_)
      exact k _ _ _ n1573 w1742.upE (w1742.sub1 (i := 0) rfl)
def m__law_draw (pot_here0 : (List Int)) (many0 : Int) : Option (Int × (List Int)) :=
  (some ((pot_here0.length : Int) == (0 : Int)) >>= fun b1743 => bif b1743 then (some (0 : Int) >>= fun a1747 => some (a1747, pot_here0)) else (popM pot_here0 >>= fun x1751 => (some many0 >>= fun x1758 => (modM x1751.1 x1758 >>= fun x1762 => some (x1762, x1751.2)))))
theorem sc__law_draw : FnScope ["_law_pot_here", "_law_many"] ["_law_pot_here", "_law_many"] (defScope s__law_draw) := ⟨rfl, rfl, rfl, by decide +kernel, rfl, by decide +kernel, by decide +kernel⟩
theorem ok__law_draw (T : Tx K mg) : Fk P w K mg base CX0 1 "_law_draw" ["_law_pot_here", "_law_many"] (P1 (aC rI aN) rI rI (fun ys i => m__law_draw ys i.1)) := by
  obtain ⟨fd, F⟩ := T.def_ 12 rfl
  have nd := sc__law_draw.nd
  refine fk_mk T.toTx (x := "_law_draw") (T.glo 17 rfl) F (fun _ _ _ _ _ _ us hl => match us, hl with | [_, _], _ => rfl) (F.ok sc__law_draw (fun vs H Q E h => ?_) (fun cdv A outer s H vs Q E hr h => ?_))
  · obtain ⟨G, ⟨l, ⟨many0, ⟨⟩⟩⟩, pot_here0, r, k', ⟨_, _, rfl, rfl, ⟨vmany0, _, rfl, hmany0, rfl⟩⟩, wd, h, k⟩ := h
    rfl
  · obtain ⟨G, ⟨l, ⟨many0, ⟨⟩⟩⟩, pot_here0, r, k', ⟨_, _, rfl, rfl, ⟨vmany0, _, rfl, hmany0, rfl⟩⟩, wd, h, k⟩ := h
    cases hmany0
    have w0 : Wo G H [l] G H _ := Wo.startC wd
    have h : m__law_draw pot_here0 many0 = some (r, k') := h
    unfold m__law_draw at h
    refine ⟨_, PSs.nox (pss_cons (ps_if (pt_cmpR op_eq (pe_callB (r := rLn K) call_len_seq (by rfl) (fr_len T) (by decide +kernel) (pa_cons (pv 0) pa_nil)) pe_int (nomark _)) (pss_cons (ps_ret pe_int) pss_nil) pss_nil) (pss_cons (ps_ret (pe_op op_mod (pe_callTy call_int1 (by rfl) (fr_int T) (by decide +kernel) (pa_cons (pe_bm0 PySem.F.plainAttrs_list PySem.F.slot_list_pop PySem.F.type_list_pop mt_pop (pv 0)) pa_nil)) (pv 1))) pss_nil)), ?_⟩
    obtain ⟨b1743, hx1744, h⟩ := bindS h
    refine x_if w0 (et_T (e_op rr_eqI (e_cb rc_lenL (ea_cons (e_var (R := rL rI) (x := pot_here0) rfl (w0.rlAt (i := 0) rfl)) ea_nil)) e_int)) hx1744 ?_ ?_
    · intro hbb1743 H1745 w1746
      subst hbb1743
      obtain ⟨a1747, hx1748, h⟩ := bindS h
      obtain ⟨h8, h9⟩ : a1747 = r ∧ pot_here0 = k' := Prod.mk.inj (Option.some.inj h)
      subst h8
      subst h9
      exact x_ret w1746 e_int hx1748 (fun v9 H9 G9 w9 e9 r9 => k v9 H9 G9 w9.f (w9.sub1 (i := 0) rfl) r9)
    · intro hbb1743 H1749 w1750
      subst hbb1743
      refine x_next ?_
      refine x_retO ?_
      refine o_op ?_
      refine o_cb ?_
      refine o_cons ?_
      obtain ⟨x1751, hx1752, h⟩ := bindS h
      refine o_bm0 (j := 0) w1750 rfl rfl (c_pop (j := 0) w1750 rfl hx1752 ?_)
      intro v1753 H1754 w1755 r1756
      cases r1756
      have w1755 : Wo G H [l] G H1754 [(l, cL rI x1751.2)] := w1755
      refine o_nil ?_
      refine Or.inl ⟨_, rfl, ?_⟩
      obtain ⟨x1758, hx1759, h⟩ := bindS h
      refine c_i w1755 (e_var (R := rI) (x := many0) rfl rfl) hx1759 ?_
      intro H1760 w1761
      obtain ⟨x1762, hx1763, h⟩ := bindS h
      refine c_rr rr_mod w1761 rfl rfl hx1763 ?_
      intro u1764 H1765 G1766 w1767 e1768 r1769
      cases r1769
      obtain ⟨h8, h9⟩ : x1762 = r ∧ x1751.2 = k' := Prod.mk.inj (Option.some.inj h)
      subst h8
      subst h9
      exact k _ _ _ w1767.f (w1767.sub1 (i := 0) rfl) rfl
def m__law_masks_b2 (x1848 : (Int × (List Int))) (x1881 : Int) (s1871 : (List Int)) : Option (List Int) :=
  ((some (!s1871.any fun z => z == (Builtin.bitAnd x1881 x1848.1)) >>= fun b1889 => bif b1889 then (some (Builtin.bitAnd x1881 x1848.1) >>= fun a1908 => appM s1871 a1908 >>= fun more_1909 => some more_1909) else some s1871) >>= fun s1900 => some (s1900))
def m__law_masks_b1 (most0 : Int) (x1841 : Int) (s1826 : ((List Int) × (List Int))) : Option ((List Int) × (List Int)) :=
  (some (32 : Int) >>= fun x1843 => (m__law_draw s1826.2 x1843 >>= fun x1848 => (some s1826.1 >>= fun more_1857 => (some s1826.1 >>= fun xs1866 => forS (m__law_masks_b2 x1848) xs1866 more_1857 >>= fun s1871 => ((some (decide ((s1871.length : Int) ≤ most0)) >>= fun b1935 => bif b1935 then (some s1871 >>= fun masks_here_1956 => some masks_here_1956) else some s1826.1) >>= fun s1946 => some ((s1946, x1848.2)))))))
def m__law_masks_b3 (x2015 : Int) (s2005 : ((List Int) × ((List Int) × (List Int)))) : Option ((List Int) × ((List Int) × (List Int))) :=
  (some (s2005.2.2.length : Int) >>= fun x2017 => (m__law_draw s2005.2.1 x2017 >>= fun x2022 => (popAtM s2005.2.2 x2022.1 >>= fun x2031 => (appM s2005.1 x2031.1 >>= fun masks_here_2038 => some ((masks_here_2038, (x2022.2, x2031.2)))))))
def m__law_masks (pot_here0 : (List Int)) (most0 : Int) : Option ((List Int) × (List Int)) :=
  (some ([(31 : Int)]) >>= fun masks_here_1770 => (some (6 : Int) >>= fun x1778 => (m__law_draw pot_here0 x1778 >>= fun x1783 => (some (1 : Int) >>= fun x1793 => (some (x1783.1 + x1793) >>= fun x1797 => (some (6 : Int) >>= fun x1807 => (modM x1797 x1807 >>= fun x1811 => (rngM 0 x1811 >>= fun xs1821 => forS (m__law_masks_b1 most0) xs1821 (masks_here_1770, x1783.2) >>= fun s1826 => ((if s1826.1.length < 64 then some (srtI s1826.1) else none) >>= fun rest_1976 => (some (rest_1976.length : Int) >>= fun size_1985 => (some ([]) >>= fun masks_here_1989 => (some size_1985 >>= fun n1998 => rngM 0 n1998 >>= fun xs2000 => forS (m__law_masks_b3) xs2000 (masks_here_1989, (s1826.2, rest_1976)) >>= fun s2005 => some (s2005.1, s2005.2.1)))))))))))))
theorem sc__law_masks : FnScope ["_law_pot_here", "_law_most", "_law_masks_here", "_law_k", "_law_rest", "_law_size", "_law_mask", "_law_more", "_law_old"] ["_law_pot_here", "_law_most"] (defScope s__law_masks) := ⟨rfl, rfl, rfl, by decide +kernel, rfl, by decide +kernel, by decide +kernel⟩
theorem ok__law_masks (T : Tx K mg) : Fk P w K mg base CX0 2 "_law_masks" ["_law_pot_here", "_law_most"] (P1L (aC rI aN) rI rI (fun ys i => m__law_masks ys i.1)) := by
  obtain ⟨fd__law_draw, G__law_draw, b__law_draw, k__law_draw, g__law_draw⟩ := ok__law_draw (P := P) (w := w) (base := base) T
  obtain ⟨fd, F⟩ := T.def_ 13 rfl
  have nd := sc__law_masks.nd
  refine fk_mk T.toTx (x := "_law_masks") (T.glo 18 rfl) F (fun _ _ _ _ _ _ us hl => match us, hl with | [_, _], _ => rfl) (F.ok sc__law_masks (fun vs H Q E h => ?_) (fun cdv A outer s H vs Q E hr h => ?_))
  · obtain ⟨G, ⟨l, ⟨most0, ⟨⟩⟩⟩, pot_here0, r, k', ⟨_, _, rfl, rfl, ⟨vmost0, _, rfl, hmost0, rfl⟩⟩, wd, h, k⟩ := h
    rfl
  · obtain ⟨G, ⟨l, ⟨most0, ⟨⟩⟩⟩, pot_here0, r, k', ⟨_, _, rfl, rfl, ⟨vmost0, _, rfl, hmost0, rfl⟩⟩, wd, h, k⟩ := h
    cases hmost0
    have w0 : Wo G H [l] G H _ := Wo.startC wd
    have h : m__law_masks pot_here0 most0 = some (r, k') := h
    unfold m__law_masks at h
    refine ⟨_, PSs.nox (pss_cons (ps_set (i := 2) nd rfl (Or.inl rfl) (pe_lst (pa_cons pe_int pa_nil))) (pss_cons (ps_for PassesOwn.never rfl (pi_range1 (by rfl) (fr_range T) (pa_cons (pe_op op_mod (pe_callTy call_int1 (by rfl) (fr_int T) (by decide +kernel) (pa_cons (pe_op op_add (pe_call G__law_draw (hr.mono (by decide)) rfl g__law_draw k__law_draw b__law_draw .nil pass0 (pa_cons (pv 0) (pa_cons pe_int pa_nil))) pe_int) pa_nil)) pe_int) pa_nil)) (pg_name (i := 3) nd rfl (Or.inl rfl)) (pss_cons (ps_set (i := 6) nd rfl (Or.inl rfl) (pe_call G__law_draw (hr.mono (by decide)) rfl g__law_draw k__law_draw b__law_draw .nil pass0 (pa_cons (pv 0) (pa_cons pe_int pa_nil)))) (pss_cons (ps_set (i := 7) nd rfl (Or.inl rfl) (pe_callTy (r := rLs K) call_list_of (by rfl) (fr_list T) (by decide +kernel) (pa_cons (pv 2) pa_nil))) (pss_cons (ps_for PassesOwn.never rfl (pi_list (pv 2)) (pg_name (i := 8) nd rfl (Or.inl rfl)) (Evl.pss_cut (ps_if (pt_cmpR (r := rIn K true) op_notIn_seq (pe_op op_and (pv 8) (pv 6)) (pv 7) (by rfl)) (pss_cons (ps_expr (pe_bm PySem.F.plainAttrs_list PySem.F.slot_list_append PySem.F.type_list_append mt_append (pv 7) (pa_cons (pe_op op_and (pv 8) (pv 6)) pa_nil))) pss_nil) pss_nil) pss_nil)) (Evl.pss_cut (ps_if (pt_cmpR op_le (pe_callB (r := rLn K) call_len_seq (by rfl) (fr_len T) (by decide +kernel) (pa_cons (pv 7) pa_nil)) (pv 1) (nomark _)) (pss_cons (ps_set (i := 2) nd rfl (Or.inl rfl) (pe_callTy (r := rLs K) call_list_of (by rfl) (fr_list T) (by decide +kernel) (pa_cons (pv 7) pa_nil))) pss_nil) pss_nil) pss_nil))))) (pss_cons (ps_set (i := 4) nd rfl (Or.inl rfl) (pe_callB (r := rSorted K) cr_sorted (by rfl) (fr_sorted T) (by decide +kernel) (pa_cons (pv 2) pa_nil))) (pss_cons (ps_set (i := 5) nd rfl (Or.inl rfl) (pe_callB (r := rLn K) call_len_seq (by rfl) (fr_len T) (by decide +kernel) (pa_cons (pv 4) pa_nil))) (pss_cons (ps_set (i := 2) nd rfl (Or.inl rfl) (pe_lst pa_nil)) (pss_cons (ps_for PassesOwn.never rfl (pi_range1 (by rfl) (fr_range T) (pa_cons (pv 5) pa_nil)) (pg_name (i := 3) nd rfl (Or.inl rfl)) (pss_cons (ps_expr (pe_bm PySem.F.plainAttrs_list PySem.F.slot_list_append PySem.F.type_list_append mt_append (pv 2) (pa_cons (pe_bm PySem.F.plainAttrs_list PySem.F.slot_list_pop PySem.F.type_list_pop mt_popAt (pv 4) (pa_cons (pe_call G__law_draw (hr.mono (by decide)) rfl g__law_draw k__law_draw b__law_draw .nil pass0 (pa_cons (pv 0) (pa_cons (pe_callB (r := rLn K) call_len_seq (by rfl) (fr_len T) (by decide +kernel) (pa_cons (pv 4) pa_nil)) pa_nil))) pa_nil)) pa_nil))) pss_nil)) (pss_cons (ps_ret (pv 2)) pss_nil))))))), ?_⟩
    obtain ⟨masks_here_1770, hx1771, h⟩ := bindS h
    refine x_set w0 (EL.e (el_disp (eal_cons e_int eal_nil))) hx1771 ?_
    intro v1774 H1772 G1775 w1773 e1776 h1777
    refine o_forR ?_
    refine o_cons ?_
    refine o_op ?_
    refine o_cb ?_
    refine o_cons ?_
    refine o_op ?_
    refine o_call ?_
    refine o_cons ?_
    refine o_var rfl ?_
    refine o_cons ?_
    obtain ⟨x1778, hx1779, h⟩ := bindS h
    refine c_i w1773 e_int hx1779 ?_
    intro H1780 w1781
    refine o_nil ?_
    obtain ⟨x1783, hx1784, h⟩ := bindS h
    refine c_p1 (i := 0) (j := (x1778, ())) w1781 rfl ⟨_, _, rfl, rfl, rfl⟩ hx1784 ?_
    intro u1785 H1786 G1787 w1788 e1789 r1790
    have h1791 := Rep.mono _ e1789 h1777
    cases r1790
    have w1788 : Wo G H [l] G1787 H1786 [(l, cL rI x1783.2)] := w1788
    obtain ⟨x1793, hx1794, h⟩ := bindS h
    refine c_i w1788 e_int hx1794 ?_
    intro H1795 w1796
    obtain ⟨x1797, hx1798, h⟩ := bindS h
    refine c_rr rr_add w1796 rfl rfl hx1798 ?_
    intro u1799 H1800 G1801 w1802 e1803 r1804
    have h1805 := Rep.mono _ e1803 h1791
    cases r1804
    refine o_nil ?_
    refine Or.inl ⟨_, rfl, ?_⟩
    obtain ⟨x1807, hx1808, h⟩ := bindS h
    refine c_i w1802 e_int hx1808 ?_
    intro H1809 w1810
    obtain ⟨x1811, hx1812, h⟩ := bindS h
    refine c_rr rr_mod w1810 rfl rfl hx1812 ?_
    intro u1813 H1814 G1815 w1816 e1817 r1818
    have h1819 := Rep.mono _ e1817 h1805
    cases r1818
    refine o_nil ?_
    obtain ⟨xs1821, hx1822, h⟩ := bindS h
    obtain ⟨t1824, hx1825, h⟩ := bindS h
    refine v_forR w1816 hx1822 (fun i G' H' σ' => ∃ s1826 : ((List Int) × (List Int)), ∃ v1827 : V, ∃ u1829 : Option V, ∃ u1830 : Option V, ∃ u1831 : Option V, ∃ u1832 : Option V, Wo G H [l] G' H' [(l, cL rI s1826.2)] ∧ Evl.Ex G1815 G' ∧ σ' = [some (V.ref l), some (V.int most0), some v1827, u1829, none, none, u1830, u1831, u1832] ∧ (rL rI).r G' v1827 s1826.1 ∧ forS (m__law_masks_b1 most0) (xs1821.drop i) s1826 = some t1824) ?_ ?_ ?_
    · exact ⟨(masks_here_1770, x1783.2), v1774, (none), (none), (none), (none), w1816, (Evl.Ex.refl _), rfl, (Rep.mono _ (Evl.Ex.refl _) h1819), hx1825⟩
    · rintro i1840 x1841 σ' G1836 H1839 hx1842 ⟨s1826, v1827, u1829, u1830, u1831, u1832, w1837, e1838, rfl, h1828, hm1834⟩
      obtain ⟨q1835, hb1833, hm1834⟩ := forS_at hx1842 hm1834
      refine g_name ?_
      unfold m__law_masks_b1 at hb1833
      refine x_setO ?_
      refine o_call ?_
      refine o_cons ?_
      refine o_var rfl ?_
      refine o_cons ?_
      obtain ⟨x1843, hx1844, hb1833⟩ := bindS hb1833
      refine c_i w1837 e_int hx1844 ?_
      intro H1845 w1846
      refine o_nil ?_
      obtain ⟨x1848, hx1849, hb1833⟩ := bindS hb1833
      refine c_p1 (i := 0) (j := (x1843, ())) w1846 rfl ⟨_, _, rfl, rfl, rfl⟩ hx1849 ?_
      intro u1850 H1851 G1852 w1853 e1854 r1855
      have h1856 := Rep.mono _ e1854 h1828
      cases r1855
      have w1853 : Wo G H [l] G1852 H1851 [(l, cL rI x1848.2)] := w1853
      obtain ⟨more_1857, hx1858, hb1833⟩ := bindS hb1833
      refine x_setL w1853 (el_cb rc_listL (ea_cons (e_var (R := (rL rI)) (x := s1826.1) rfl h1856) ea_nil)) hx1858 ?_
      intro p1861 H1859 G1862 n1863 w1860 e1864
      have h1865 := Rep.mono _ e1864 h1856
      obtain ⟨xs1866, hx1867, hb1833⟩ := bindS hb1833
      obtain ⟨t1869, hx1870, hb1833⟩ := bindS hb1833
      refine x_forL w1860 (e_var (R := (rL rI)) (x := s1826.1) rfl h1865) hx1867 (fun i G' H' σ' => ∃ s1871 : (List Int), ∃ u1872 : Option V, Wo G H [l] G' H' [(p1861, cL rI s1871), (l, cL rI x1848.2)] ∧ Evl.Ex G1862 G' ∧ σ' = [some (V.ref l), some (V.int most0), some v1827, some (V.int x1841), none, none, some (V.int x1848.1), some (V.ref p1861), u1872] ∧ forS (m__law_masks_b2 x1848) (xs1866.drop i) s1871 = some t1869) (fun _ _ _ _ ⟨_, _, w, _⟩ => w.ex) ?_ ?_ ?_
      · intro G' H' w' e'
        exact ⟨more_1857, (u1832), w', e', rfl, hx1870⟩
      · rintro G1883 e1884 i1880 x1881 v1885 σ' G1876 H1879 hx1882 e1887 ⟨s1871, u1872, w1877, e1878, rfl, hm1874⟩ r1886
        obtain ⟨q1875, hb1873, hm1874⟩ := forS_at hx1882 hm1874
        have h1888 := Rep.mono _ e1878 h1865
        refine g_name ?_
        cases r1886
        unfold m__law_masks_b2 at hb1873
        obtain ⟨s1900, hx1901, hb1873⟩ := bindS hb1873
        refine o_cut (fun σ' H' => ∃ G' : Hp, Wo G H [l] G' H' [(p1861, cL rI s1900), (l, cL rI x1848.2)] ∧ Evl.Ex G1876 G' ∧ σ' = [some (V.ref l), some (V.int most0), some v1827, some (V.int x1841), none, none, some (V.int x1848.1), some (V.ref p1861), some (V.int x1881)]) ?_ ?_
        · obtain ⟨b1889, hx1905, hx1901⟩ := bindS hx1901
          refine x_if w1877 (et_T (e_op (rr_ninL flI) (e_op rr_and (e_var (R := rI) (x := x1881) rfl rfl) (e_var (R := rI) (x := x1848.1) rfl rfl)) (e_var (R := rL rI) (x := s1871) rfl (w1877.rlAt (i := 0) rfl)))) hx1905 ?_ ?_
          · intro hbb1889 H1906 w1907
            subst hbb1889
            obtain ⟨a1908, hx1910, hx1901⟩ := bindS hx1901
            obtain ⟨more_1909, hx1911, hx1901⟩ := bindS hx1901
            obtain ⟨hs1912, rfl⟩ := appM_ok hx1911
            refine x_app (j := 0) w1907 rfl hs1912 rfl (e_op rr_and (e_var (R := rI) (x := x1881) rfl rfl) (e_var (R := rI) (x := x1848.1) rfl rfl)) hx1910 ?_
            intro H1913 G1914 w1915 e1916
            have h1917 := Rep.mono _ e1916 h1888
            have w1915 : Wo G H [l] G1914 H1913 [(p1861, cL rI (s1871 ++ [a1908])), (l, cL rI x1848.2)] := w1915
            refine x_next ?_
            have hx1901 : (s1871 ++ [a1908]) = s1900 := Option.some.inj hx1901
            subst hx1901
            exact ⟨G1914, w1915, e1916, rfl⟩
          · intro hbb1889 H1918 w1919
            subst hbb1889
            refine x_next ?_
            have hx1901 : s1871 = s1900 := Option.some.inj hx1901
            subst hx1901
            exact ⟨G1876, w1919, (Evl.Ex.refl _), rfl⟩
        · rintro σ' H1922 ⟨G1920, w1903, e1902, rfl⟩
          have h1921 := Rep.mono _ e1902 h1888
          refine x_next ?_
          have hb1873 : s1900 = q1875 := Option.some.inj hb1873
          subst hb1873
          exact ⟨G1920, (e1887.trans e1902), s1900, (some (V.int x1881)), w1903, (e1878.trans e1902), rfl, hm1874⟩
      · rintro σ' G1923 H1926 e1927 ⟨s1871, u1872, w1924, e1925, rfl, hm1874⟩
        have hm1874 := forS_end hm1874
        subst hm1874
        have h1929 := Rep.mono _ e1925 h1865
        obtain ⟨G1930, w1931, e1932, h1933⟩ := w1924.freezeAt (i := 0) rfl n1863
        have h1934 := Rep.mono _ e1932 h1929
        have w1931 : Wo G H [l] G1930 H1926 [(l, cL rI x1848.2)] := w1931
        obtain ⟨s1946, hx1947, hb1833⟩ := bindS hb1833
        refine o_cut (fun σ' H' => ∃ v1948 : V, ∃ G' : Hp, Wo G H [l] G' H' [(l, cL rI x1848.2)] ∧ Evl.Ex G1930 G' ∧ σ' = [some (V.ref l), some (V.int most0), some v1948, some (V.int x1841), none, none, some (V.int x1848.1), some (V.ref p1861), u1872] ∧ (rL rI).r G' v1948 s1946) ?_ ?_
        · obtain ⟨b1935, hx1953, hx1947⟩ := bindS hx1947
          refine x_if w1931 (et_T (e_op rr_le (e_cb rc_lenL (ea_cons (e_var (R := (rL rI)) (x := s1871) rfl (Rep.mono _ w1931.ex h1933)) ea_nil)) (e_var (R := rI) (x := most0) rfl rfl))) hx1953 ?_ ?_
          · intro hbb1935 H1954 w1955
            subst hbb1935
            obtain ⟨masks_here_1956, hx1957, hx1947⟩ := bindS hx1947
            refine x_set w1955 (EL.e (el_cb rc_listL (ea_cons (e_var (R := (rL rI)) (x := s1871) rfl h1933) ea_nil))) hx1957 ?_
            intro v1960 H1958 G1961 w1959 e1962 h1963
            have h1964 := Rep.mono _ e1962 h1934
            have h1965 := Rep.mono _ e1962 h1933
            refine x_next ?_
            have hx1947 : masks_here_1956 = s1946 := Option.some.inj hx1947
            subst hx1947
            exact ⟨v1960, G1961, w1959, e1962, rfl, h1963⟩
          · intro hbb1935 H1966 w1967
            subst hbb1935
            refine x_next ?_
            have hx1947 : s1826.1 = s1946 := Option.some.inj hx1947
            subst hx1947
            exact ⟨v1827, G1930, w1967, (Evl.Ex.refl _), rfl, h1934⟩
        · rintro σ' H1970 ⟨v1948, G1968, w1951, e1950, rfl, h1949⟩
          have h1969 := Rep.mono _ e1950 h1933
          refine x_next ?_
          have hb1833 : (s1946, x1848.2) = q1835 := Option.some.inj hb1833
          subst hb1833
          exact ⟨G1968, (s1946, x1848.2), v1948, (some (V.int x1841)), (some (V.int x1848.1)), (some (V.ref p1861)), (u1872), w1951, (((((e1838.trans e1854).trans e1864).trans e1925).trans e1932).trans e1950), rfl, h1949, hm1834⟩
    · rintro σ' G1971 H1974 ⟨s1826, v1827, u1829, u1830, u1831, u1832, w1972, e1973, rfl, h1828, hm1834⟩
      have hm1834 := forS_end hm1834
      subst hm1834
      obtain ⟨rest_1976, hx1977, h⟩ := bindS h
      refine x_setL w1972 (el_cb rc_sorted (ea_cons (e_var (R := (rL rI)) (x := s1826.1) rfl h1828) ea_nil)) hx1977 ?_
      intro p1980 H1978 G1981 n1982 w1979 e1983
      have h1984 := Rep.mono _ e1983 h1828
      obtain ⟨size_1985, hx1986, h⟩ := bindS h
      refine x_setI w1979 (Sim.E.s scI (e_cb rc_lenL (ea_cons (e_var (R := rL rI) (x := rest_1976) rfl (w1979.rlAt (i := 0) rfl)) ea_nil))) hx1986 ?_
      intro H1987 w1988
      obtain ⟨masks_here_1989, hx1990, h⟩ := bindS h
      refine x_setL w1988 (el_disp (R := rI) eal_nil) hx1990 ?_
      intro p1993 H1991 G1994 n1995 w1992 e1996
      have h1997 := Rep.mono _ e1996 h1984
      obtain ⟨n1998, hx1999, h⟩ := bindS h
      obtain ⟨xs2000, hx2001, h⟩ := bindS h
      obtain ⟨t2003, hx2004, h⟩ := bindS h
      refine x_forR w1992 (ea_cons (Sim.E.is (e_var (R := rI) (x := size_1985) rfl rfl) hx1999) ea_nil) rfl hx2001 (fun i G' H' σ' => ∃ s2005 : ((List Int) × ((List Int) × (List Int))), ∃ u2006 : Option V, Wo G H [l] G' H' [(p1993, cL rI s2005.1), (p1980, cL rI s2005.2.2), (l, cL rI s2005.2.1)] ∧ Evl.Ex G1994 G' ∧ σ' = [some (V.ref l), some (V.int most0), some (V.ref p1993), u2006, some (V.ref p1980), some (V.int size_1985), u1830, u1831, u1832] ∧ forS (m__law_masks_b3) (xs2000.drop i) s2005 = some t2003) ?_ ?_ ?_
      · intro G' H' w' e'
        exact ⟨(masks_here_1989, (s1826.2, rest_1976)), (u1829), w', e', rfl, hx2004⟩
      · rintro i2014 x2015 σ' G2010 H2013 hx2016 ⟨s2005, u2006, w2011, e2012, rfl, hm2008⟩
        obtain ⟨q2009, hb2007, hm2008⟩ := forS_at hx2016 hm2008
        refine g_name ?_
        unfold m__law_masks_b3 at hb2007
        refine x_drop ?_
        refine o_bm (j := 0) w2011 rfl rfl ?_
        refine o_cons ?_
        refine o_bm (j := 1) w2011 rfl rfl ?_
        refine o_cons ?_
        refine o_call ?_
        refine o_cons ?_
        refine o_var rfl ?_
        refine o_cons ?_
        obtain ⟨x2017, hx2018, hb2007⟩ := bindS hb2007
        refine c_i w2011 (Sim.E.s scI (e_cb rc_lenL (ea_cons (e_var (R := rL rI) (x := s2005.2.2) rfl (w2011.rlAt (i := 1) rfl)) ea_nil))) hx2018 ?_
        intro H2019 w2020
        refine o_nil ?_
        obtain ⟨x2022, hx2023, hb2007⟩ := bindS hb2007
        refine c_p1 (i := 2) (j := (x2017, ())) w2020 rfl ⟨_, _, rfl, rfl, rfl⟩ hx2023 ?_
        intro u2024 H2025 G2026 w2027 e2028 r2029
        cases r2029
        have w2027 : Wo G H [l] G2026 H2025 [(p1993, cL rI s2005.1), (p1980, cL rI s2005.2.2), (l, cL rI x2022.2)] := w2027
        refine o_nil ?_
        obtain ⟨x2031, hx2032, hb2007⟩ := bindS hb2007
        refine c_popAt (j := 1) w2027 rfl hx2032 ?_
        intro v2033 H2034 w2035 r2036
        cases r2036
        have w2035 : Wo G H [l] G2026 H2034 [(p1993, cL rI s2005.1), (p1980, cL rI x2031.2), (l, cL rI x2022.2)] := w2035
        refine o_nil ?_
        obtain ⟨masks_here_2038, hx2039, hb2007⟩ := bindS hb2007
        obtain ⟨hs2042, q2043⟩ := appM_ok hx2039
        subst q2043
        refine c_app (j := 0) w2035 rfl hs2042 rfl ?_
        intro H2040 w2041
        have w2041 : Wo G H [l] G2026 H2040 [(p1993, cL rI (s2005.1 ++ [x2031.1])), (p1980, cL rI x2031.2), (l, cL rI x2022.2)] := w2041
        refine x_next ?_
        have hb2007 : ((s2005.1 ++ [x2031.1]), (x2022.2, x2031.2)) = q2009 := Option.some.inj hb2007
        subst hb2007
        exact ⟨G2026, ((s2005.1 ++ [x2031.1]), (x2022.2, x2031.2)), (some (V.int x2015)), w2041, (e2012.trans e2028), rfl, hm2008⟩
      · rintro σ' G2044 H2047 ⟨s2005, u2006, w2045, e2046, rfl, hm2008⟩
        have hm2008 := forS_end hm2008
        subst hm2008
        obtain ⟨h8, h9⟩ : s2005.1 = r ∧ s2005.2.1 = k' := Prod.mk.inj (Option.some.inj h)
        subst h8
        subst h9
        refine x_retO (o_var rfl ?_)
        exact k _ _ _ n1995 w2045.f (w2045.sub2 (i := 0) (j := 2) rfl rfl (by decide))
def m__law_under (masks_here0 : (List Int)) (low0 : Int) (high0 : Int) : Option Bool :=
  (((atI masks_here0 low0 >>= fun t2049 => (atI masks_here0 high0 >>= fun t2050 => some (Builtin.bitAnd t2049 t2050))) >>= fun t2051 => (atI masks_here0 low0 >>= fun t2052 => some (t2051 == t2052))) >>= fun a2053 => some a2053)
theorem sc__law_under : FnScope ["_law_masks_here", "_law_low", "_law_high"] ["_law_masks_here", "_law_low", "_law_high"] (defScope s__law_under) := ⟨rfl, rfl, rfl, by decide +kernel, rfl, by decide +kernel, by decide +kernel⟩
theorem ok__law_under (T : Tx K mg) : Fk P w K mg base CX0 1 "_law_under" ["_law_masks_here", "_law_low", "_law_high"] (PF (aC (rL rI) (aC rI (aC rI aN))) rB (fun i => m__law_under i.1 i.2.1 i.2.2.1)) := by
  obtain ⟨fd, F⟩ := T.def_ 14 rfl
  have nd := sc__law_under.nd
  refine fk_mk T.toTx (x := "_law_under") (T.glo 19 rfl) F (fun _ _ _ _ _ _ us hl => match us, hl with | [_, _, _], _ => rfl) (F.ok sc__law_under (fun vs H Q E h => ?_) (fun cdv A outer s H vs Q E hr h => ?_))
  · obtain ⟨G, ⟨masks_here0, low0, high0, ⟨⟩⟩, r, e0, ⟨vmasks_here0, _, rfl, hmasks_here0, vlow0, _, rfl, hlow0, vhigh0, _, rfl, hhigh0, rfl⟩, h, k⟩ := h
    rfl
  · obtain ⟨G, ⟨masks_here0, low0, high0, ⟨⟩⟩, r, e0, ⟨vmasks_here0, _, rfl, hmasks_here0, vlow0, _, rfl, hlow0, vhigh0, _, rfl, hhigh0, rfl⟩, h, k⟩ := h
    cases hlow0
    cases hhigh0
    have w0 := Wo.start e0
    have h : m__law_under masks_here0 low0 high0 = some r := h
    unfold m__law_under at h
    refine ⟨_, PSs.nox (pss_cons (ps_ret (pe_cmpR op_eq (pe_op op_and (pe_ix (r := rIxL K) ix_list (pv 0) (pv 1) (fun _ _ => rfl)) (pe_ix (r := rIxL K) ix_list (pv 0) (pv 2) (fun _ _ => rfl))) (pe_ix (r := rIxL K) ix_list (pv 0) (pv 1) (fun _ _ => rfl)) (nomark _))) pss_nil), ?_⟩
    obtain ⟨a2053, hx2054, h⟩ := bindS h
    have h : a2053 = r := Option.some.inj h
    subst h
    exact x_ret w0 (e_op rr_eqI (e_op rr_and (e_op rr_ixL (e_var (R := (rL rI)) (x := masks_here0) rfl hmasks_here0) (e_var (R := rI) (x := low0) rfl rfl)) (e_op rr_ixL (e_var (R := (rL rI)) (x := masks_here0) rfl hmasks_here0) (e_var (R := rI) (x := high0) rfl rfl))) (e_op rr_ixL (e_var (R := (rL rI)) (x := masks_here0) rfl hmasks_here0) (e_var (R := rI) (x := low0) rfl rfl))) (by first | exact hx2054 | (simp only [Option.bind_eq_bind, Option.bind_some, Option.bind_assoc] at hx2054 ⊢; exact hx2054)) (fun v9 H9 G9 w9 e9 r9 => k v9 H9 G9 w9.upE r9)
def m__law_covers_b2 (masks_here0 : (List Int)) (x2084 : Int) (x2106 : Int) (s2094 : (List (Int × Int))) : Option (List (Int × Int)) :=
  ((rngM 0 (masks_here0.length : Int) >>= fun xs2115 => lcS (fun x2112 => (andO (m__law_under masks_here0 x2084 x2112) (m__law_under masks_here0 x2112 x2106))) (fun x2112 => some x2112) xs2115) >>= fun between_2116 => ((some ((!(x2084 == x2106)) && ((between_2116.length : Int) == (2 : Int))) >>= fun b2125 => bif b2125 then (some (x2084, x2106) >>= fun a2145 => appM s2094 a2145 >>= fun covers_here_2146 => some covers_here_2146) else some s2094) >>= fun s2137 => some (s2137)))
def m__law_covers_b1 (masks_here0 : (List Int)) (x2084 : Int) (s2071 : (List (Int × Int))) : Option (List (Int × Int)) :=
  (some (masks_here0.length : Int) >>= fun n2087 => rngM 0 n2087 >>= fun xs2089 => forS (m__law_covers_b2 masks_here0 x2084) xs2089 s2071 >>= fun s2094 => some (s2094))
def m__law_covers (masks_here0 : (List Int)) : Option (List (Int × Int)) :=
  (some ([]) >>= fun covers_here_2055 => (some (masks_here0.length : Int) >>= fun n2064 => rngM 0 n2064 >>= fun xs2066 => forS (m__law_covers_b1 masks_here0) xs2066 covers_here_2055 >>= fun s2071 => some s2071))
theorem sc__law_covers : FnScope ["_law_masks_here", "_law_covers_here", "_law_low", "_law_high", "_law_between", "_law_k"] ["_law_masks_here"] (defScope s__law_covers) := ⟨rfl, rfl, rfl, by decide +kernel, rfl, by decide +kernel, by decide +kernel⟩
theorem ok__law_covers (T : Tx K mg) : Fk P w K mg base CX0 2 "_law_covers" ["_law_masks_here"] (PL (aC (rL rI) aN) (rP rI rI) (fun i => m__law_covers i.1)) := by
  obtain ⟨fd__law_under, G__law_under, b__law_under, k__law_under, g__law_under⟩ := ok__law_under (P := P) (w := w) (base := base) T
  obtain ⟨fd, F⟩ := T.def_ 15 rfl
  have nd := sc__law_covers.nd
  refine fk_mk T.toTx (x := "_law_covers") (T.glo 20 rfl) F (fun _ _ _ _ _ _ us hl => match us, hl with | [_], _ => rfl) (F.ok sc__law_covers (fun vs H Q E h => ?_) (fun cdv A outer s H vs Q E hr h => ?_))
  · obtain ⟨G, ⟨masks_here0, ⟨⟩⟩, r, e0, ⟨vmasks_here0, _, rfl, hmasks_here0, rfl⟩, h, k⟩ := h
    rfl
  · obtain ⟨G, ⟨masks_here0, ⟨⟩⟩, r, e0, ⟨vmasks_here0, _, rfl, hmasks_here0, rfl⟩, h, k⟩ := h
    have w0 := Wo.start e0
    have h : m__law_covers masks_here0 = some r := h
    unfold m__law_covers at h
    refine ⟨_, PSs.nox (pss_cons (ps_set (i := 1) nd rfl (Or.inl rfl) (pe_lst pa_nil)) (pss_cons (ps_for PassesOwn.never rfl (pi_range1 (by rfl) (fr_range T) (pa_cons (pe_callB (r := rLn K) call_len_seq (by rfl) (fr_len T) (by decide +kernel) (pa_cons (pv 0) pa_nil)) pa_nil)) (pg_name (i := 2) nd rfl (Or.inr rfl)) (pss_cons (ps_for PassesOwn.never rfl (pi_range1 (by rfl) (fr_range T) (pa_cons (pe_callB (r := rLn K) call_len_seq (by rfl) (fr_len T) (by decide +kernel) (pa_cons (pv 0) pa_nil)) pa_nil)) (pg_name (i := 3) nd rfl (Or.inr rfl)) (pss_cons (ps_setLc (i := 4) (own := [("_law_k", 5)]) (by rfl) nd rfl rfl (sw_true rfl rfl rfl (by decide +kernel)) (pi_range1 (by rfl) (fr_range T) (pa_cons (pe_callB (r := rLn K) call_len_seq (by rfl) (fr_len T) (by decide +kernel) (pa_cons (pv 0) pa_nil)) pa_nil)) (blkOk_by (by kernel_rfl)) (fun _ _ _ _ _ => pg_name (i := 5) nd rfl (by first | exact Or.inl rfl | exact Or.inr rfl)) (fun _ _ _ _ _ => pts_one (PW.pt (pw_and (pt_val (pe_call G__law_under (hr.mono (by decide)) rfl g__law_under k__law_under b__law_under .nil pass0 (pa_cons (pv 0) (pa_cons (pv 2) (pa_cons (pv 5) pa_nil))))) (pw_and1 (pt_val (pe_call G__law_under (hr.mono (by decide)) rfl g__law_under k__law_under b__law_under .nil pass0 (pa_cons (pv 0) (pa_cons (pv 5) (pa_cons (pv 3) pa_nil))))))))) (fun _ _ _ _ _ => (pv 5))) (Evl.pss_cut (ps_if (PW.pt (pw_and (pt_cmpR op_ne (pv 2) (pv 3) (nomark _)) (pw_and1 (pt_cmpR op_eq (pe_callB (r := rLn K) call_len_seq (by rfl) (fr_len T) (by decide +kernel) (pa_cons (pv 4) pa_nil)) pe_int (nomark _))))) (pss_cons (ps_expr (pe_bm PySem.F.plainAttrs_list PySem.F.slot_list_append PySem.F.type_list_append mt_append (pv 1) (pa_cons (pe_tup (pa_cons (pv 2) (pa_cons (pv 3) pa_nil))) pa_nil))) pss_nil) pss_nil) pss_nil))) pss_nil)) (pss_cons (ps_ret (pv 1)) pss_nil))), ?_⟩
    obtain ⟨covers_here_2055, hx2056, h⟩ := bindS h
    refine x_setL w0 (el_disp (R := (rP rI rI)) eal_nil) hx2056 ?_
    intro p2059 H2057 G2060 n2061 w2058 e2062
    have h2063 := Rep.mono _ e2062 hmasks_here0
    obtain ⟨n2064, hx2065, h⟩ := bindS h
    obtain ⟨xs2066, hx2067, h⟩ := bindS h
    obtain ⟨t2069, hx2070, h⟩ := bindS h
    refine x_forR w2058 (ea_cons (Sim.E.is (e_cb rc_lenL (ea_cons (e_var (R := (rL rI)) (x := masks_here0) rfl h2063) ea_nil)) hx2065) ea_nil) rfl hx2067 (fun i G' H' σ' => ∃ s2071 : (List (Int × Int)), ∃ u2072 : Option V, ∃ u2073 : Option V, ∃ u2074 : Option V, ∃ u2075 : Option V, Wo G H [] G' H' [(p2059, cL (rP rI rI) s2071)] ∧ Evl.Ex G2060 G' ∧ σ' = [some vmasks_here0, some (V.ref p2059), u2075, u2073, u2072, u2074] ∧ forS (m__law_covers_b1 masks_here0) (xs2066.drop i) s2071 = some t2069) ?_ ?_ ?_
    · intro G' H' w' e'
      exact ⟨covers_here_2055, (none), (none), (none), (none), w', e', rfl, hx2070⟩
    · rintro i2083 x2084 σ' G2079 H2082 hx2085 ⟨s2071, u2072, u2073, u2074, u2075, w2080, e2081, rfl, hm2077⟩
      obtain ⟨q2078, hb2076, hm2077⟩ := forS_at hx2085 hm2077
      have h2086 := Rep.mono _ e2081 h2063
      refine g_name ?_
      unfold m__law_covers_b1 at hb2076
      obtain ⟨n2087, hx2088, hb2076⟩ := bindS hb2076
      obtain ⟨xs2089, hx2090, hb2076⟩ := bindS hb2076
      obtain ⟨t2092, hx2093, hb2076⟩ := bindS hb2076
      refine x_forR w2080 (ea_cons (Sim.E.is (e_cb rc_lenL (ea_cons (e_var (R := (rL rI)) (x := masks_here0) rfl h2086) ea_nil)) hx2088) ea_nil) rfl hx2090 (fun i G' H' σ' => ∃ s2094 : (List (Int × Int)), ∃ u2095 : Option V, ∃ u2096 : Option V, ∃ u2097 : Option V, Wo G H [] G' H' [(p2059, cL (rP rI rI) s2094)] ∧ Evl.Ex G2079 G' ∧ σ' = [some vmasks_here0, some (V.ref p2059), some (V.int x2084), u2096, u2095, u2097] ∧ forS (m__law_covers_b2 masks_here0 x2084) (xs2089.drop i) s2094 = some t2092) ?_ ?_ ?_
      · intro G' H' w' e'
        exact ⟨s2071, (u2072), (u2073), (u2074), w', e', rfl, hx2093⟩
      · rintro i2105 x2106 σ' G2101 H2104 hx2107 ⟨s2094, u2095, u2096, u2097, w2102, e2103, rfl, hm2099⟩
        obtain ⟨q2100, hb2098, hm2099⟩ := forS_at hx2107 hm2099
        have h2108 := Rep.mono _ e2103 h2086
        refine g_name ?_
        unfold m__law_covers_b2 at hb2098
        obtain ⟨between_2116, hx2117, hb2098⟩ := bindS hb2098
        refine x_set w2102 (EL.e (el_lcR (j := 5) (ea_cons (e_cb rc_lenL (ea_cons (e_var (R := (rL rI)) (x := masks_here0) rfl h2108) ea_nil)) ea_nil) (fun _ => rfl) (fun x2112 G2113 W2114 eG2109 eW2110 eX2111 => (et_and (et_B (e_call (ea_cons (e_var (R := (rL rI)) (x := masks_here0) rfl (Rep.mono _ eX2111 (Rep.mono _ eG2109 h2108))) (ea_cons (e_var (R := rI) (x := x2084) rfl rfl) (ea_cons (e_var (R := rI) (x := x2112) rfl rfl) ea_nil))))) (et_B (e_call (ea_cons (e_var (R := (rL rI)) (x := masks_here0) rfl (Rep.mono _ eX2111 (Rep.mono _ eG2109 h2108))) (ea_cons (e_var (R := rI) (x := x2112) rfl rfl) (ea_cons (e_var (R := rI) (x := x2106) rfl rfl) ea_nil))))))) (fun x2112 G2113 W2114 eG2109 eW2110 eX2111 => (e_var (R := rI) (x := x2112) rfl rfl)))) hx2117 ?_
        intro v2120 H2118 G2121 w2119 e2122 h2123
        have h2124 := Rep.mono _ e2122 h2108
        obtain ⟨s2137, hx2138, hb2098⟩ := bindS hb2098
        refine o_cut (fun σ' H' => ∃ G' : Hp, Wo G H [] G' H' [(p2059, cL (rP rI rI) s2137)] ∧ Evl.Ex G2121 G' ∧ σ' = [some vmasks_here0, some (V.ref p2059), some (V.int x2084), some (V.int x2106), some v2120, u2097]) ?_ ?_
        · obtain ⟨b2125, hx2142, hx2138⟩ := bindS hx2138
          refine x_if w2119 (et_andP (et_T (e_op rr_neI (e_var (R := rI) (x := x2084) rfl rfl) (e_var (R := rI) (x := x2106) rfl rfl))) (et_T (e_op rr_eqI (e_cb rc_lenL (ea_cons (e_var (R := (rL rI)) (x := between_2116) rfl (Rep.mono _ w2119.ex h2123)) ea_nil)) e_int))) hx2142 ?_ ?_
          · intro hbb2125 H2143 w2144
            subst hbb2125
            obtain ⟨a2145, hx2147, hx2138⟩ := bindS hx2138
            obtain ⟨covers_here_2146, hx2148, hx2138⟩ := bindS hx2138
            obtain ⟨hs2149, rfl⟩ := appM_ok hx2148
            refine x_app (j := 0) w2144 rfl hs2149 rfl (e_pair (e_var (R := rI) (x := x2084) rfl rfl) (e_var (R := rI) (x := x2106) rfl rfl)) hx2147 ?_
            intro H2150 G2151 w2152 e2153
            have h2154 := Rep.mono _ e2153 h2124
            have h2155 := Rep.mono _ e2153 h2123
            have w2152 : Wo G H [] G2151 H2150 [(p2059, cL (rP rI rI) (s2094 ++ [a2145]))] := w2152
            refine x_next ?_
            have hx2138 : (s2094 ++ [a2145]) = s2137 := Option.some.inj hx2138
            subst hx2138
            exact ⟨G2151, w2152, e2153, rfl⟩
          · intro hbb2125 H2156 w2157
            subst hbb2125
            refine x_next ?_
            have hx2138 : s2094 = s2137 := Option.some.inj hx2138
            subst hx2138
            exact ⟨G2121, w2157, (Evl.Ex.refl _), rfl⟩
        · rintro σ' H2161 ⟨G2158, w2140, e2139, rfl⟩
          have h2159 := Rep.mono _ e2139 h2124
          have h2160 := Rep.mono _ e2139 h2123
          refine x_next ?_
          have hb2098 : s2137 = q2100 := Option.some.inj hb2098
          subst hb2098
          exact ⟨G2158, s2137, (some v2120), (some (V.int x2106)), (u2097), w2140, ((e2103.trans e2122).trans e2139), rfl, hm2099⟩
      · rintro σ' G2162 H2165 ⟨s2094, u2095, u2096, u2097, w2163, e2164, rfl, hm2099⟩
        have hm2099 := forS_end hm2099
        subst hm2099
        have h2167 := Rep.mono _ e2164 h2086
        refine x_next ?_
        have hb2076 : s2094 = q2078 := Option.some.inj hb2076
        subst hb2076
        exact ⟨G2162, s2094, (u2095), (u2096), (u2097), (some (V.int x2084)), w2163, (e2081.trans e2164), rfl, hm2077⟩
    · rintro σ' G2168 H2171 ⟨s2071, u2072, u2073, u2074, u2075, w2169, e2170, rfl, hm2077⟩
      have hm2077 := forS_end hm2077
      subst hm2077
      have h2173 := Rep.mono _ e2170 h2063
      have h : s2071 = r := Option.some.inj h
      subst h
      refine x_retO (o_var rfl ?_)
      exact k _ _ _ n2061 w2169.upE (w2169.sub1 (i := 0) rfl)
def m__law_pairs_given_b1 (x2213 : Int) (s2203 : ((List (Int × Int)) × ((List Int) × (List (Int × Int))))) : Option ((List (Int × Int)) × ((List Int) × (List (Int × Int)))) :=
  (some (s2203.2.2.length : Int) >>= fun x2216 => (m__law_draw s2203.2.1 x2216 >>= fun x2221 => (popAtM s2203.2.2 x2221.1 >>= fun x2231 => (appM s2203.1 x2231.1 >>= fun pairs_2238 => some ((pairs_2238, (x2221.2, x2231.2)))))))
def m__law_pairs_given_b2 (masks_here0 : (List Int)) (x2282 : Int) (s2270 : ((List (Int × Int)) × (List Int))) : Option ((List (Int × Int)) × (List Int)) :=
  (some (masks_here0.length : Int) >>= fun x2285 => (m__law_draw s2270.2 x2285 >>= fun x2290 => (some (masks_here0.length : Int) >>= fun x2299 => (m__law_draw x2290.2 x2299 >>= fun x2304 => ((m__law_under masks_here0 x2290.1 x2304.1 >>= fun b2313 => bif b2313 then (some ((s2270.1.length : Int) + (1 : Int)) >>= fun x2423 => (m__law_draw x2304.2 x2423 >>= fun x2428 => (some (x2290.1, x2304.1) >>= fun x2438 => (insM s2270.1 x2428.1 x2438 >>= fun pairs_2448 => some (pairs_2448, x2428.2))))) else ((m__law_under masks_here0 x2304.1 x2290.1 >>= fun b2454 => bif b2454 then (some ((s2270.1.length : Int) + (1 : Int)) >>= fun x2492 => (m__law_draw x2304.2 x2492 >>= fun x2497 => (some (x2304.1, x2290.1) >>= fun x2507 => (insM s2270.1 x2497.1 x2507 >>= fun pairs_2517 => some (pairs_2517, x2497.2))))) else some (s2270.1, x2304.2)) >>= fun s2484 => some (s2484.1, s2484.2))) >>= fun s2415 => some ((s2415.1, s2415.2)))))))
def m__law_pairs_given (pot_here0 : (List Int)) (masks_here0 : (List Int)) : Option ((List (Int × Int)) × (List Int)) :=
  (m__law_covers masks_here0 >>= fun rest_2174 => (some (rest_2174.length : Int) >>= fun many_2183 => (some ([]) >>= fun pairs_2187 => (some many_2183 >>= fun n2196 => rngM 0 n2196 >>= fun xs2198 => forS (m__law_pairs_given_b1) xs2198 (pairs_2187, (pot_here0, rest_2174)) >>= fun s2203 => (some (6 : Int) >>= fun x2250 => (m__law_draw s2203.2.1 x2250 >>= fun x2255 => (rngM 0 x2255.1 >>= fun xs2265 => forS (m__law_pairs_given_b2 masks_here0) xs2265 (s2203.1, x2255.2) >>= fun s2270 => some (s2270.1, s2270.2))))))))
theorem sc__law_pairs_given : FnScope ["_law_pot_here", "_law_masks_here", "_law_rest", "_law_many", "_law_pairs", "_law_k", "_law_low", "_law_high"] ["_law_pot_here", "_law_masks_here"] (defScope s__law_pairs_given) := ⟨rfl, rfl, rfl, by decide +kernel, rfl, by decide +kernel, by decide +kernel⟩
theorem ok__law_pairs_given (T : Tx K mg) : Fk P w K mg base CX0 3 "_law_pairs_given" ["_law_pot_here", "_law_masks_here"] (P1L (aC (rL rI) aN) rI (rP rI rI) (fun ys i => m__law_pairs_given ys i.1)) := by
  obtain ⟨fd__law_covers, G__law_covers, b__law_covers, k__law_covers, g__law_covers⟩ := ok__law_covers (P := P) (w := w) (base := base) T
  obtain ⟨fd__law_draw, G__law_draw, b__law_draw, k__law_draw, g__law_draw⟩ := ok__law_draw (P := P) (w := w) (base := base) T
  obtain ⟨fd__law_under, G__law_under, b__law_under, k__law_under, g__law_under⟩ := ok__law_under (P := P) (w := w) (base := base) T
  obtain ⟨fd, F⟩ := T.def_ 16 rfl
  have nd := sc__law_pairs_given.nd
  refine fk_mk T.toTx (x := "_law_pairs_given") (T.glo 21 rfl) F (fun _ _ _ _ _ _ us hl => match us, hl with | [_, _], _ => rfl) (F.ok sc__law_pairs_given (fun vs H Q E h => ?_) (fun cdv A outer s H vs Q E hr h => ?_))
  · obtain ⟨G, ⟨l, ⟨masks_here0, ⟨⟩⟩⟩, pot_here0, r, k', ⟨_, _, rfl, rfl, ⟨vmasks_here0, _, rfl, hmasks_here0, rfl⟩⟩, wd, h, k⟩ := h
    rfl
  · obtain ⟨G, ⟨l, ⟨masks_here0, ⟨⟩⟩⟩, pot_here0, r, k', ⟨_, _, rfl, rfl, ⟨vmasks_here0, _, rfl, hmasks_here0, rfl⟩⟩, wd, h, k⟩ := h
    have w0 : Wo G H [l] G H _ := Wo.startC wd
    have h : m__law_pairs_given pot_here0 masks_here0 = some (r, k') := h
    unfold m__law_pairs_given at h
    refine ⟨_, PSs.nox (pss_cons (ps_set (i := 2) nd rfl (Or.inl rfl) (pe_call G__law_covers (hr.mono (by decide)) rfl g__law_covers k__law_covers b__law_covers .nil pass0 (pa_cons (pv 1) pa_nil))) (pss_cons (ps_set (i := 3) nd rfl (Or.inl rfl) (pe_callB (r := rLn K) call_len_seq (by rfl) (fr_len T) (by decide +kernel) (pa_cons (pv 2) pa_nil))) (pss_cons (ps_set (i := 4) nd rfl (Or.inl rfl) (pe_lst pa_nil)) (pss_cons (ps_for PassesOwn.never rfl (pi_range1 (by rfl) (fr_range T) (pa_cons (pv 3) pa_nil)) (pg_name (i := 5) nd rfl (Or.inl rfl)) (pss_cons (ps_expr (pe_bm PySem.F.plainAttrs_list PySem.F.slot_list_append PySem.F.type_list_append mt_append (pv 4) (pa_cons (pe_bm PySem.F.plainAttrs_list PySem.F.slot_list_pop PySem.F.type_list_pop mt_popAt (pv 2) (pa_cons (pe_call G__law_draw (hr.mono (by decide)) rfl g__law_draw k__law_draw b__law_draw .nil pass0 (pa_cons (pv 0) (pa_cons (pe_callB (r := rLn K) call_len_seq (by rfl) (fr_len T) (by decide +kernel) (pa_cons (pv 2) pa_nil)) pa_nil))) pa_nil)) pa_nil))) pss_nil)) (pss_cons (ps_for PassesOwn.never rfl (pi_range1 (by rfl) (fr_range T) (pa_cons (pe_call G__law_draw (hr.mono (by decide)) rfl g__law_draw k__law_draw b__law_draw .nil pass0 (pa_cons (pv 0) (pa_cons pe_int pa_nil))) pa_nil)) (pg_name (i := 5) nd rfl (Or.inl rfl)) (pss_cons (ps_set (i := 6) nd rfl (Or.inl rfl) (pe_call G__law_draw (hr.mono (by decide)) rfl g__law_draw k__law_draw b__law_draw .nil pass0 (pa_cons (pv 0) (pa_cons (pe_callB (r := rLn K) call_len_seq (by rfl) (fr_len T) (by decide +kernel) (pa_cons (pv 1) pa_nil)) pa_nil)))) (pss_cons (ps_set (i := 7) nd rfl (Or.inl rfl) (pe_call G__law_draw (hr.mono (by decide)) rfl g__law_draw k__law_draw b__law_draw .nil pass0 (pa_cons (pv 0) (pa_cons (pe_callB (r := rLn K) call_len_seq (by rfl) (fr_len T) (by decide +kernel) (pa_cons (pv 1) pa_nil)) pa_nil)))) (Evl.pss_cut (ps_if (pt_val (pe_call G__law_under (hr.mono (by decide)) rfl g__law_under k__law_under b__law_under .nil pass0 (pa_cons (pv 1) (pa_cons (pv 6) (pa_cons (pv 7) pa_nil))))) (pss_cons (ps_expr (pe_bm PySem.F.plainAttrs_list PySem.F.slot_list_insert PySem.F.type_list_insert mt_insN (pv 4) (pa_cons (pe_call G__law_draw (hr.mono (by decide)) rfl g__law_draw k__law_draw b__law_draw .nil pass0 (pa_cons (pv 0) (pa_cons (pe_op op_add (pe_callB (r := rLn K) call_len_seq (by rfl) (fr_len T) (by decide +kernel) (pa_cons (pv 4) pa_nil)) pe_int) pa_nil))) (pa_cons (pe_tup (pa_cons (pv 6) (pa_cons (pv 7) pa_nil))) pa_nil)))) pss_nil) (Evl.pss_cut (ps_if (pt_val (pe_call G__law_under (hr.mono (by decide)) rfl g__law_under k__law_under b__law_under .nil pass0 (pa_cons (pv 1) (pa_cons (pv 7) (pa_cons (pv 6) pa_nil))))) (pss_cons (ps_expr (pe_bm PySem.F.plainAttrs_list PySem.F.slot_list_insert PySem.F.type_list_insert mt_insN (pv 4) (pa_cons (pe_call G__law_draw (hr.mono (by decide)) rfl g__law_draw k__law_draw b__law_draw .nil pass0 (pa_cons (pv 0) (pa_cons (pe_op op_add (pe_callB (r := rLn K) call_len_seq (by rfl) (fr_len T) (by decide +kernel) (pa_cons (pv 4) pa_nil)) pe_int) pa_nil))) (pa_cons (pe_tup (pa_cons (pv 7) (pa_cons (pv 6) pa_nil))) pa_nil)))) pss_nil) pss_nil) pss_nil)) pss_nil)))) (pss_cons (ps_ret (pv 4)) pss_nil)))))), ?_⟩
    obtain ⟨rest_2174, hx2175, h⟩ := bindS h
    refine x_setL w0 (el_call (ea_cons (e_var (R := (rL rI)) (x := masks_here0) rfl hmasks_here0) ea_nil)) hx2175 ?_
    intro p2178 H2176 G2179 n2180 w2177 e2181
    have h2182 := Rep.mono _ e2181 hmasks_here0
    obtain ⟨many_2183, hx2184, h⟩ := bindS h
    refine x_setI w2177 (Sim.E.s scI (e_cb rc_lenL (ea_cons (e_var (R := rL (rP rI rI)) (x := rest_2174) rfl (w2177.rlAt (i := 0) rfl)) ea_nil))) hx2184 ?_
    intro H2185 w2186
    obtain ⟨pairs_2187, hx2188, h⟩ := bindS h
    refine x_setL w2186 (el_disp (R := (rP rI rI)) eal_nil) hx2188 ?_
    intro p2191 H2189 G2192 n2193 w2190 e2194
    have h2195 := Rep.mono _ e2194 h2182
    obtain ⟨n2196, hx2197, h⟩ := bindS h
    obtain ⟨xs2198, hx2199, h⟩ := bindS h
    obtain ⟨t2201, hx2202, h⟩ := bindS h
    refine x_forR w2190 (ea_cons (Sim.E.is (e_var (R := rI) (x := many_2183) rfl rfl) hx2197) ea_nil) rfl hx2199 (fun i G' H' σ' => ∃ s2203 : ((List (Int × Int)) × ((List Int) × (List (Int × Int)))), ∃ u2204 : Option V, Wo G H [l] G' H' [(p2191, cL (rP rI rI) s2203.1), (p2178, cL (rP rI rI) s2203.2.2), (l, cL rI s2203.2.1)] ∧ Evl.Ex G2192 G' ∧ σ' = [some (V.ref l), some vmasks_here0, some (V.ref p2178), some (V.int many_2183), some (V.ref p2191), u2204, none, none] ∧ forS (m__law_pairs_given_b1) (xs2198.drop i) s2203 = some t2201) ?_ ?_ ?_
    · intro G' H' w' e'
      exact ⟨(pairs_2187, (pot_here0, rest_2174)), (none), w', e', rfl, hx2202⟩
    · rintro i2212 x2213 σ' G2208 H2211 hx2214 ⟨s2203, u2204, w2209, e2210, rfl, hm2206⟩
      obtain ⟨q2207, hb2205, hm2206⟩ := forS_at hx2214 hm2206
      have h2215 := Rep.mono _ e2210 h2195
      refine g_name ?_
      unfold m__law_pairs_given_b1 at hb2205
      refine x_drop ?_
      refine o_bm (j := 0) w2209 rfl rfl ?_
      refine o_cons ?_
      refine o_bm (j := 1) w2209 rfl rfl ?_
      refine o_cons ?_
      refine o_call ?_
      refine o_cons ?_
      refine o_var rfl ?_
      refine o_cons ?_
      obtain ⟨x2216, hx2217, hb2205⟩ := bindS hb2205
      refine c_i w2209 (Sim.E.s scI (e_cb rc_lenL (ea_cons (e_var (R := rL (rP rI rI)) (x := s2203.2.2) rfl (w2209.rlAt (i := 1) rfl)) ea_nil))) hx2217 ?_
      intro H2218 w2219
      refine o_nil ?_
      obtain ⟨x2221, hx2222, hb2205⟩ := bindS hb2205
      refine c_p1 (i := 2) (j := (x2216, ())) w2219 rfl ⟨_, _, rfl, rfl, rfl⟩ hx2222 ?_
      intro u2223 H2224 G2225 w2226 e2227 r2228
      have h2229 := Rep.mono _ e2227 h2215
      cases r2228
      have w2226 : Wo G H [l] G2225 H2224 [(p2191, cL (rP rI rI) s2203.1), (p2178, cL (rP rI rI) s2203.2.2), (l, cL rI x2221.2)] := w2226
      refine o_nil ?_
      obtain ⟨x2231, hx2232, hb2205⟩ := bindS hb2205
      refine c_popAt (j := 1) w2226 rfl hx2232 ?_
      intro v2233 H2234 w2235 r2236
      have w2235 : Wo G H [l] G2225 H2234 [(p2191, cL (rP rI rI) s2203.1), (p2178, cL (rP rI rI) x2231.2), (l, cL rI x2221.2)] := w2235
      refine o_nil ?_
      obtain ⟨pairs_2238, hx2239, hb2205⟩ := bindS hb2205
      obtain ⟨hs2242, q2243⟩ := appM_ok hx2239
      subst q2243
      refine c_app (j := 0) w2235 rfl hs2242 r2236 ?_
      intro H2240 w2241
      have w2241 : Wo G H [l] G2225 H2240 [(p2191, cL (rP rI rI) (s2203.1 ++ [x2231.1])), (p2178, cL (rP rI rI) x2231.2), (l, cL rI x2221.2)] := w2241
      refine x_next ?_
      have hb2205 : ((s2203.1 ++ [x2231.1]), (x2221.2, x2231.2)) = q2207 := Option.some.inj hb2205
      subst hb2205
      exact ⟨G2225, ((s2203.1 ++ [x2231.1]), (x2221.2, x2231.2)), (some (V.int x2213)), w2241, (e2210.trans e2227), rfl, hm2206⟩
    · rintro σ' G2244 H2247 ⟨s2203, u2204, w2245, e2246, rfl, hm2206⟩
      have hm2206 := forS_end hm2206
      subst hm2206
      have h2249 := Rep.mono _ e2246 h2195
      refine o_forR ?_
      refine o_cons ?_
      refine o_call ?_
      refine o_cons ?_
      refine o_var rfl ?_
      refine o_cons ?_
      obtain ⟨x2250, hx2251, h⟩ := bindS h
      refine c_i w2245 e_int hx2251 ?_
      intro H2252 w2253
      refine o_nil ?_
      obtain ⟨x2255, hx2256, h⟩ := bindS h
      refine c_p1 (i := 2) (j := (x2250, ())) w2253 rfl ⟨_, _, rfl, rfl, rfl⟩ hx2256 ?_
      intro u2257 H2258 G2259 w2260 e2261 r2262
      have h2263 := Rep.mono _ e2261 h2249
      cases r2262
      have w2260 : Wo G H [l] G2259 H2258 [(p2191, cL (rP rI rI) s2203.1), (p2178, cL (rP rI rI) s2203.2.2), (l, cL rI x2255.2)] := w2260
      refine o_nil ?_
      obtain ⟨xs2265, hx2266, h⟩ := bindS h
      obtain ⟨t2268, hx2269, h⟩ := bindS h
      refine v_forR w2260 hx2266 (fun i G' H' σ' => ∃ s2270 : ((List (Int × Int)) × (List Int)), ∃ u2271 : Option V, ∃ u2272 : Option V, ∃ u2273 : Option V, Wo G H [l] G' H' [(p2191, cL (rP rI rI) s2270.1), (p2178, cL (rP rI rI) s2203.2.2), (l, cL rI s2270.2)] ∧ Evl.Ex G2259 G' ∧ σ' = [some (V.ref l), some vmasks_here0, some (V.ref p2178), some (V.int many_2183), some (V.ref p2191), u2272, u2273, u2271] ∧ forS (m__law_pairs_given_b2 masks_here0) (xs2265.drop i) s2270 = some t2268) ?_ ?_ ?_
      · exact ⟨(s2203.1, x2255.2), (none), (u2204), (none), w2260, (Evl.Ex.refl _), rfl, hx2269⟩
      · rintro i2281 x2282 σ' G2277 H2280 hx2283 ⟨s2270, u2271, u2272, u2273, w2278, e2279, rfl, hm2275⟩
        obtain ⟨q2276, hb2274, hm2275⟩ := forS_at hx2283 hm2275
        have h2284 := Rep.mono _ e2279 h2263
        refine g_name ?_
        unfold m__law_pairs_given_b2 at hb2274
        refine x_setO ?_
        refine o_call ?_
        refine o_cons ?_
        refine o_var rfl ?_
        refine o_cons ?_
        obtain ⟨x2285, hx2286, hb2274⟩ := bindS hb2274
        refine c_i w2278 (e_cb rc_lenL (ea_cons (e_var (R := (rL rI)) (x := masks_here0) rfl h2284) ea_nil)) hx2286 ?_
        intro H2287 w2288
        refine o_nil ?_
        obtain ⟨x2290, hx2291, hb2274⟩ := bindS hb2274
        refine c_p1 (i := 2) (j := (x2285, ())) w2288 rfl ⟨_, _, rfl, rfl, rfl⟩ hx2291 ?_
        intro u2292 H2293 G2294 w2295 e2296 r2297
        have h2298 := Rep.mono _ e2296 h2284
        cases r2297
        have w2295 : Wo G H [l] G2294 H2293 [(p2191, cL (rP rI rI) s2270.1), (p2178, cL (rP rI rI) s2203.2.2), (l, cL rI x2290.2)] := w2295
        refine x_setO ?_
        refine o_call ?_
        refine o_cons ?_
        refine o_var rfl ?_
        refine o_cons ?_
        obtain ⟨x2299, hx2300, hb2274⟩ := bindS hb2274
        refine c_i w2295 (e_cb rc_lenL (ea_cons (e_var (R := (rL rI)) (x := masks_here0) rfl h2298) ea_nil)) hx2300 ?_
        intro H2301 w2302
        refine o_nil ?_
        obtain ⟨x2304, hx2305, hb2274⟩ := bindS hb2274
        refine c_p1 (i := 2) (j := (x2299, ())) w2302 rfl ⟨_, _, rfl, rfl, rfl⟩ hx2305 ?_
        intro u2306 H2307 G2308 w2309 e2310 r2311
        have h2312 := Rep.mono _ e2310 h2298
        cases r2311
        have w2309 : Wo G H [l] G2308 H2307 [(p2191, cL (rP rI rI) s2270.1), (p2178, cL (rP rI rI) s2203.2.2), (l, cL rI x2304.2)] := w2309
        obtain ⟨s2415, hx2416, hb2274⟩ := bindS hb2274
        refine o_cut (fun σ' H' => ∃ G' : Hp, Wo G H [l] G' H' [(p2191, cL (rP rI rI) s2415.1), (p2178, cL (rP rI rI) s2203.2.2), (l, cL rI s2415.2)] ∧ Evl.Ex G2308 G' ∧ σ' = [some (V.ref l), some vmasks_here0, some (V.ref p2178), some (V.int many_2183), some (V.ref p2191), some (V.int x2282), some (V.int x2290.1), some (V.int x2304.1)]) ?_ ?_
        · obtain ⟨b2313, hx2420, hx2416⟩ := bindS hx2416
          refine x_if w2309 (et_B (e_call (ea_cons (e_var (R := (rL rI)) (x := masks_here0) rfl (Rep.mono _ w2309.ex h2312)) (ea_cons (e_var (R := rI) (x := x2290.1) rfl rfl) (ea_cons (e_var (R := rI) (x := x2304.1) rfl rfl) ea_nil))))) hx2420 ?_ ?_
          · intro hbb2313 H2421 w2422
            subst hbb2313
            refine x_drop ?_
            refine o_bm (j := 0) w2422 rfl rfl ?_
            refine o_cons ?_
            refine o_call ?_
            refine o_cons ?_
            refine o_var rfl ?_
            refine o_cons ?_
            obtain ⟨x2423, hx2424, hx2416⟩ := bindS hx2416
            refine c_i w2422 (Sim.E.s scI (e_op rr_add (e_cb rc_lenL (ea_cons (e_var (R := rL (rP rI rI)) (x := s2270.1) rfl (w2422.rlAt (i := 0) rfl)) ea_nil)) e_int)) hx2424 ?_
            intro H2425 w2426
            refine o_nil ?_
            obtain ⟨x2428, hx2429, hx2416⟩ := bindS hx2416
            refine c_p1 (i := 2) (j := (x2423, ())) w2426 rfl ⟨_, _, rfl, rfl, rfl⟩ hx2429 ?_
            intro u2430 H2431 G2432 w2433 e2434 r2435
            have h2436 := Rep.mono _ e2434 h2312
            cases r2435
            have w2433 : Wo G H [l] G2432 H2431 [(p2191, cL (rP rI rI) s2270.1), (p2178, cL (rP rI rI) s2203.2.2), (l, cL rI x2428.2)] := w2433
            refine o_cons ?_
            obtain ⟨x2438, hx2439, hx2416⟩ := bindS hx2416
            refine c_e w2433 (e_pair (e_var (R := rI) (x := x2290.1) rfl rfl) (e_var (R := rI) (x := x2304.1) rfl rfl)) hx2439 ?_
            intro v2442 H2440 G2443 w2441 e2444 h2445
            have h2446 := Rep.mono _ e2444 h2436
            refine o_nil ?_
            obtain ⟨pairs_2448, hx2449, hx2416⟩ := bindS hx2416
            refine c_ins (j := 0) w2441 rfl h2445 hx2449 ?_
            intro H2450 w2451
            have w2451 : Wo G H [l] G2443 H2450 [(p2191, cL (rP rI rI) pairs_2448), (p2178, cL (rP rI rI) s2203.2.2), (l, cL rI x2428.2)] := w2451
            refine x_next ?_
            have hx2416 : (pairs_2448, x2428.2) = s2415 := Option.some.inj hx2416
            subst hx2416
            exact ⟨G2443, w2451, (e2434.trans e2444), rfl⟩
          · intro hbb2313 H2452 w2453
            subst hbb2313
            obtain ⟨s2484, hx2485, hx2416⟩ := bindS hx2416
            refine o_cut (fun σ' H' => ∃ G' : Hp, Wo G H [l] G' H' [(p2191, cL (rP rI rI) s2484.1), (p2178, cL (rP rI rI) s2203.2.2), (l, cL rI s2484.2)] ∧ Evl.Ex G2308 G' ∧ σ' = [some (V.ref l), some vmasks_here0, some (V.ref p2178), some (V.int many_2183), some (V.ref p2191), some (V.int x2282), some (V.int x2290.1), some (V.int x2304.1)]) ?_ ?_
            · obtain ⟨b2454, hx2489, hx2485⟩ := bindS hx2485
              refine x_if w2453 (et_B (e_call (ea_cons (e_var (R := (rL rI)) (x := masks_here0) rfl (Rep.mono _ w2453.ex h2312)) (ea_cons (e_var (R := rI) (x := x2304.1) rfl rfl) (ea_cons (e_var (R := rI) (x := x2290.1) rfl rfl) ea_nil))))) hx2489 ?_ ?_
              · intro hbb2454 H2490 w2491
                subst hbb2454
                refine x_drop ?_
                refine o_bm (j := 0) w2491 rfl rfl ?_
                refine o_cons ?_
                refine o_call ?_
                refine o_cons ?_
                refine o_var rfl ?_
                refine o_cons ?_
                obtain ⟨x2492, hx2493, hx2485⟩ := bindS hx2485
                refine c_i w2491 (Sim.E.s scI (e_op rr_add (e_cb rc_lenL (ea_cons (e_var (R := rL (rP rI rI)) (x := s2270.1) rfl (w2491.rlAt (i := 0) rfl)) ea_nil)) e_int)) hx2493 ?_
                intro H2494 w2495
                refine o_nil ?_
                obtain ⟨x2497, hx2498, hx2485⟩ := bindS hx2485
                refine c_p1 (i := 2) (j := (x2492, ())) w2495 rfl ⟨_, _, rfl, rfl, rfl⟩ hx2498 ?_
                intro u2499 H2500 G2501 w2502 e2503 r2504
                have h2505 := Rep.mono _ e2503 h2312
                cases r2504
                have w2502 : Wo G H [l] G2501 H2500 [(p2191, cL (rP rI rI) s2270.1), (p2178, cL (rP rI rI) s2203.2.2), (l, cL rI x2497.2)] := w2502
                refine o_cons ?_
                obtain ⟨x2507, hx2508, hx2485⟩ := bindS hx2485
                refine c_e w2502 (e_pair (e_var (R := rI) (x := x2304.1) rfl rfl) (e_var (R := rI) (x := x2290.1) rfl rfl)) hx2508 ?_
                intro v2511 H2509 G2512 w2510 e2513 h2514
                have h2515 := Rep.mono _ e2513 h2505
                refine o_nil ?_
                obtain ⟨pairs_2517, hx2518, hx2485⟩ := bindS hx2485
                refine c_ins (j := 0) w2510 rfl h2514 hx2518 ?_
                intro H2519 w2520
                have w2520 : Wo G H [l] G2512 H2519 [(p2191, cL (rP rI rI) pairs_2517), (p2178, cL (rP rI rI) s2203.2.2), (l, cL rI x2497.2)] := w2520
                refine x_next ?_
                have hx2485 : (pairs_2517, x2497.2) = s2484 := Option.some.inj hx2485
                subst hx2485
                exact ⟨G2512, w2520, (e2503.trans e2513), rfl⟩
              · intro hbb2454 H2521 w2522
                subst hbb2454
                refine x_next ?_
                have hx2485 : (s2270.1, x2304.2) = s2484 := Option.some.inj hx2485
                subst hx2485
                exact ⟨G2308, w2522, (Evl.Ex.refl _), rfl⟩
            · rintro σ' H2525 ⟨G2523, w2487, e2486, rfl⟩
              have h2524 := Rep.mono _ e2486 h2312
              refine x_next ?_
              have hx2416 : (s2484.1, s2484.2) = s2415 := Option.some.inj hx2416
              subst hx2416
              exact ⟨G2523, w2487, e2486, rfl⟩
        · rintro σ' H2528 ⟨G2526, w2418, e2417, rfl⟩
          have h2527 := Rep.mono _ e2417 h2312
          refine x_next ?_
          have hb2274 : (s2415.1, s2415.2) = q2276 := Option.some.inj hb2274
          subst hb2274
          exact ⟨G2526, (s2415.1, s2415.2), (some (V.int x2304.1)), (some (V.int x2282)), (some (V.int x2290.1)), w2418, (((e2279.trans e2296).trans e2310).trans e2417), rfl, hm2275⟩
      · rintro σ' G2529 H2532 ⟨s2270, u2271, u2272, u2273, w2530, e2531, rfl, hm2275⟩
        have hm2275 := forS_end hm2275
        subst hm2275
        have h2534 := Rep.mono _ e2531 h2263
        obtain ⟨h8, h9⟩ : s2270.1 = r ∧ s2270.2 = k' := Prod.mk.inj (Option.some.inj h)
        subst h8
        subst h9
        refine x_retO (o_var rfl ?_)
        exact k _ _ _ n2193 w2530.f (w2530.sub2 (i := 0) (j := 2) rfl rfl (by decide))
def m__law_below_kept_b2 (order0 : m_Order) (x2554 : Int) (masks_here0 : (List Int)) (x2576 : Int) (s2565 : Unit) : Option (Stp Unit Bool) :=
  (m_Order_below order0 x2554 x2576 >>= fun told_2580 => ((orO (some (!true)) ((m__law_under masks_here0 x2554 x2576 >>= fun t2584 => some (!(told_2580 == t2584))))) >>= fun b2585 => bif b2585 then (some false >>= fun a2589 => some (Stp.rt a2589)) else some (Stp.nx ())))
def m__law_below_kept_b1 (masks_here0 : (List Int)) (order0 : m_Order) (x2554 : Int) (s2542 : Unit) : Option (Stp Unit Bool) :=
  (some (masks_here0.length : Int) >>= fun n2558 => rngM 0 n2558 >>= fun xs2560 => forL (m__law_below_kept_b2 order0 x2554 masks_here0) xs2560 () >>= Sum.elim (fun s2565 => some (Stp.nx ())) (fun r => some (Stp.rt r)))
def m__law_below_kept (order0 : m_Order) (masks_here0 : (List Int)) : Option Bool :=
  (some (masks_here0.length : Int) >>= fun n2535 => rngM 0 n2535 >>= fun xs2537 => forL (m__law_below_kept_b1 masks_here0 order0) xs2537 () >>= Sum.elim (fun s2542 => (some true >>= fun a2607 => some a2607)) (fun r => some r))
theorem sc__law_below_kept : FnScope ["_law_order", "_law_masks_here", "_law_low", "_law_high", "_law_told"] ["_law_order", "_law_masks_here"] (defScope s__law_below_kept) := ⟨rfl, rfl, rfl, by decide +kernel, rfl, by decide +kernel, by decide +kernel⟩
theorem ok__law_below_kept (T : Tx K mg) : Fk P w K mg base CX0 3 "_law_below_kept" ["_law_order", "_law_masks_here"] (PF (aC (r_Order K) (aC (rL rI) aN)) rB (fun i => m__law_below_kept i.1 i.2.1)) := by
  obtain ⟨fd_Order_below, G_Order_below, b_Order_below⟩ := ok_Order_below (P := P) (w := w) (base := base) T
  obtain ⟨fd__law_under, G__law_under, b__law_under, k__law_under, g__law_under⟩ := ok__law_under (P := P) (w := w) (base := base) T
  obtain ⟨fd, F⟩ := T.def_ 17 rfl
  have nd := sc__law_below_kept.nd
  refine fk_mk T.toTx (x := "_law_below_kept") (T.glo 22 rfl) F (fun _ _ _ _ _ _ us hl => match us, hl with | [_, _], _ => rfl) (F.ok sc__law_below_kept (fun vs H Q E h => ?_) (fun cdv A outer s H vs Q E hr h => ?_))
  · obtain ⟨G, ⟨order0, masks_here0, ⟨⟩⟩, r, e0, ⟨vorder0, _, rfl, horder0, vmasks_here0, _, rfl, hmasks_here0, rfl⟩, h, k⟩ := h
    rfl
  · obtain ⟨G, ⟨order0, masks_here0, ⟨⟩⟩, r, e0, ⟨vorder0, _, rfl, horder0, vmasks_here0, _, rfl, hmasks_here0, rfl⟩, h, k⟩ := h
    have w0 := Wo.start e0
    have h : m__law_below_kept order0 masks_here0 = some r := h
    unfold m__law_below_kept at h
    refine ⟨_, PSs.nox (pss_cons (ps_for PassesOwn.never rfl (pi_range1 (by rfl) (fr_range T) (pa_cons (pe_callB (r := rLn K) call_len_seq (by rfl) (fr_len T) (by decide +kernel) (pa_cons (pv 1) pa_nil)) pa_nil)) (pg_name (i := 2) nd rfl (Or.inl rfl)) (pss_cons (ps_for PassesOwn.never rfl (pi_range1 (by rfl) (fr_range T) (pa_cons (pe_callB (r := rLn K) call_len_seq (by rfl) (fr_len T) (by decide +kernel) (pa_cons (pv 1) pa_nil)) pa_nil)) (pg_name (i := 3) nd rfl (Or.inl rfl)) (pss_cons (ps_set (i := 4) nd rfl (Or.inl rfl) (pe_meth (pv 0) (T.cls 35 rfl) (T.meth 42 rfl) G_Order_below (hr.mono (by decide)) b_Order_below .nil pass0 (pa_cons (pv 2) (pa_cons (pv 3) pa_nil)))) (pss_cons (ps_if (PW.pt (pw_or (pt_not (pt_val (pe_callB (r := rIsi K) call_isi (by rfl) (fr_isinstance T) (by decide +kernel) (pa_cons (pv 4) (pa_cons (pe_bltn (v := .ty "bool") (by rfl) (fr_bool T) (by decide +kernel) rfl) pa_nil))))) (pw_or1 (pt_cmpR op_ne (pv 4) (pe_call G__law_under (hr.mono (by decide)) rfl g__law_under k__law_under b__law_under .nil pass0 (pa_cons (pv 1) (pa_cons (pv 2) (pa_cons (pv 3) pa_nil)))) (nomark _))))) (pss_cons (ps_ret pe_bl) pss_nil) pss_nil) pss_nil))) pss_nil)) (pss_cons (ps_ret pe_bl) pss_nil)), ?_⟩
    obtain ⟨n2535, hx2536, h⟩ := bindS h
    obtain ⟨xs2537, hx2538, h⟩ := bindS h
    obtain ⟨t2540, hx2541, h⟩ := bindS h
    refine x_forR w0 (ea_cons (Sim.E.is (e_cb rc_lenL (ea_cons (e_var (R := (rL rI)) (x := masks_here0) rfl hmasks_here0) ea_nil)) hx2536) ea_nil) rfl hx2538 (fun i G' H' σ' => ∃ s2542 : Unit, ∃ u2543 : Option V, ∃ u2544 : Option V, ∃ u2545 : Option V, Wo G H [] G' H' [] ∧ Evl.Ex G G' ∧ σ' = [some vorder0, some vmasks_here0, u2544, u2543, u2545] ∧ forL (m__law_below_kept_b1 masks_here0 order0) (xs2537.drop i) s2542 = some t2540) ?_ ?_ ?_
    · intro G' H' w' e'
      exact ⟨(), (none), (none), (none), w', e', rfl, hx2541⟩
    · rintro i2553 x2554 σ' G2549 H2552 hx2555 ⟨s2542, u2543, u2544, u2545, w2550, e2551, rfl, hm2547⟩
      obtain ⟨q2548, hb2546, hm2547⟩ := forL_at hx2555 hm2547
      have h2556 := Rep.mono _ e2551 horder0
      have h2557 := Rep.mono _ e2551 hmasks_here0
      refine g_name ?_
      unfold m__law_below_kept_b1 at hb2546
      obtain ⟨n2558, hx2559, hb2546⟩ := bindS hb2546
      obtain ⟨xs2560, hx2561, hb2546⟩ := bindS hb2546
      obtain ⟨t2563, hx2564, hb2546⟩ := bindS hb2546
      refine x_forR w2550 (ea_cons (Sim.E.is (e_cb rc_lenL (ea_cons (e_var (R := (rL rI)) (x := masks_here0) rfl h2557) ea_nil)) hx2559) ea_nil) rfl hx2561 (fun i G' H' σ' => ∃ s2565 : Unit, ∃ u2566 : Option V, ∃ u2567 : Option V, Wo G H [] G' H' [] ∧ Evl.Ex G2549 G' ∧ σ' = [some vorder0, some vmasks_here0, some (V.int x2554), u2566, u2567] ∧ forL (m__law_below_kept_b2 order0 x2554 masks_here0) (xs2560.drop i) s2565 = some t2563) ?_ ?_ ?_
      · intro G' H' w' e'
        exact ⟨(), (u2543), (u2545), w', e', rfl, hx2564⟩
      · rintro i2575 x2576 σ' G2571 H2574 hx2577 ⟨s2565, u2566, u2567, w2572, e2573, rfl, hm2569⟩
        obtain ⟨q2570, hb2568, hm2569⟩ := forL_at hx2577 hm2569
        have h2578 := Rep.mono _ e2573 h2556
        have h2579 := Rep.mono _ e2573 h2557
        refine g_name ?_
        unfold m__law_below_kept_b2 at hb2568
        obtain ⟨told_2580, hx2581, hb2568⟩ := bindS hb2568
        refine x_setB w2572 (e_meth (e_var (R := (r_Order K)) (x := order0) rfl h2578) (ea_cons (e_var (R := rI) (x := x2554) rfl rfl) (ea_cons (e_var (R := rI) (x := x2576) rfl rfl) ea_nil)) (by decide +kernel)) hx2581 ?_
        intro H2582 w2583
        obtain ⟨b2585, hx2586, hb2568⟩ := bindS hb2568
        refine x_if w2583 (et_or (et_not (et_B (e_isi (e_var (R := rB) (x := told_2580) rfl rfl) ktB (n := "bool") (c := "bool") (b := true) (by decide +kernel)))) (et_T (e_op rr_neB (e_var (R := rB) (x := told_2580) rfl rfl) (e_call (ea_cons (e_var (R := (rL rI)) (x := masks_here0) rfl (Rep.mono _ w2583.ex h2579)) (ea_cons (e_var (R := rI) (x := x2554) rfl rfl) (ea_cons (e_var (R := rI) (x := x2576) rfl rfl) ea_nil))))))) (by first | exact hx2586 | (simp only [Option.bind_eq_bind, Option.bind_some, Option.bind_assoc] at hx2586 ⊢; exact hx2586)) ?_ ?_
        · intro hbb2585 H2587 w2588
          subst hbb2585
          obtain ⟨a2589, hx2590, hb2568⟩ := bindS hb2568
          have hb2568 : some (Stp.rt a2589) = some q2570 := hb2568
          cases hb2568
          have hm2569 : some (Sum.inr a2589) = some t2563 := hm2569
          cases hm2569
          have hb2546 : some (Stp.rt a2589) = some q2548 := hb2546
          cases hb2546
          have hm2547 : some (Sum.inr a2589) = some t2540 := hm2547
          cases hm2547
          have h : a2589 = r := Option.some.inj h
          subst h
          exact x_ret w2588 e_bl hx2590 (fun v9 H9 G9 w9 e9 r9 => k v9 H9 G9 w9.upE r9)
        · intro hbb2585 H2591 w2592
          subst hbb2585
          refine x_next ?_
          refine x_next ?_
          have hb2568 : Stp.nx () = q2570 := Option.some.inj hb2568
          subst hb2568
          exact ⟨G2571, (), (some (V.int x2576)), (some (V.bl told_2580)), w2592, e2573, rfl, hm2569⟩
      · rintro σ' G2593 H2596 ⟨s2565, u2566, u2567, w2594, e2595, rfl, hm2569⟩
        have hm2569 := forL_end hm2569
        subst hm2569
        have h2598 := Rep.mono _ e2595 h2556
        have h2599 := Rep.mono _ e2595 h2557
        refine x_next ?_
        have hb2546 : Stp.nx () = q2548 := Option.some.inj hb2546
        subst hb2546
        exact ⟨G2593, (), (u2566), (some (V.int x2554)), (u2567), w2594, (e2551.trans e2595), rfl, hm2547⟩
    · rintro σ' G2600 H2603 ⟨s2542, u2543, u2544, u2545, w2601, e2602, rfl, hm2547⟩
      have hm2547 := forL_end hm2547
      subst hm2547
      have h2605 := Rep.mono _ e2602 horder0
      have h2606 := Rep.mono _ e2602 hmasks_here0
      obtain ⟨a2607, hx2608, h⟩ := bindS h
      have h : a2607 = r := Option.some.inj h
      subst h
      exact x_ret w2601 e_bl hx2608 (fun v9 H9 G9 w9 e9 r9 => k v9 H9 G9 w9.upE r9)
def m_law (script0 : (List Int)) : Option Bool :=
  (m__law_pot script0 >>= fun pot_here_2609 => (some (8 : Int) >>= fun x2618 => (m__law_masks pot_here_2609 x2618 >>= fun x2623 => (some x2623.1 >>= fun x2637 => (m__law_pairs_given x2623.2 x2637 >>= fun x2648 => (some x2648.1 >>= fun handed_2665 => (some (3 : Int) >>= fun x2676 => (m__law_draw x2648.2 x2676 >>= fun x2681 => (some (1 : Int) >>= fun x2693 => (some (x2681.1 == x2693) >>= fun x2697 => (some (none : (Option m_Order)) >>= fun order_2708 => ((some x2697 >>= fun b2719 => bif b2719 then ((m_Order___init___T (x2623.1.length : Int) x2648.1 >>= fun t2756 => some (some t2756)) >>= fun order_2757 => some order_2757) else ((m_Order___init___C (x2623.1.length : Int) handed_2665 >>= fun t2771 => some (some t2771)) >>= fun order_2772 => some order_2772)) >>= fun s2746 => (some (s2746.isNone || (!decide (handed_2665 = x2648.1))) >>= fun b2789 => bif b2789 then (some false >>= fun a2793 => some a2793) else (((s2746 >>= fun t2797 => m__law_below_kept t2797 x2623.1) >>= fun t2798 => some (!t2798)) >>= fun b2799 => bif b2799 then (some false >>= fun a2803 => some a2803) else (some (([] : (List (Int × Int)))) >>= fun handed_2807 => ((s2746 >>= fun t2811 => m__law_below_kept t2811 x2623.1) >>= fun a2812 => some a2812))))))))))))))))
theorem sc_law : FnScope ["_law_script", "_law_pot_here", "_law_masks_here", "_law_pairs", "_law_handed", "_law_as_tuple", "_law_order"] ["_law_script"] (defScope s_law) := ⟨rfl, rfl, rfl, by decide +kernel, rfl, by decide +kernel, by decide +kernel⟩
theorem ok_law (T : Tx K mg) : ∃ fd, FunD K "law" "law" (defArgs s_law) (defBody s_law) (defScope s_law) [] [] (He.ga K "law") fd ∧ ∀ base : Heap, FnOk P w K mg base CX0 5 (He.ga K "law") fd ["_law_script"] (PF (aC (rScr K) aN) rB (fun i => m_law i.1)) := by
  obtain ⟨fd, F⟩ := T.def_ 18 rfl
  refine ⟨fd, F, fun base => ?_⟩
  obtain ⟨fd__law_pot, G__law_pot, b__law_pot, k__law_pot, g__law_pot⟩ := ok__law_pot (P := P) (w := w) (base := base) T
  obtain ⟨fd__law_masks, G__law_masks, b__law_masks, k__law_masks, g__law_masks⟩ := ok__law_masks (P := P) (w := w) (base := base) T
  obtain ⟨fd__law_pairs_given, G__law_pairs_given, b__law_pairs_given, k__law_pairs_given, g__law_pairs_given⟩ := ok__law_pairs_given (P := P) (w := w) (base := base) T
  obtain ⟨fd__law_draw, G__law_draw, b__law_draw, k__law_draw, g__law_draw⟩ := ok__law_draw (P := P) (w := w) (base := base) T
  obtain ⟨fd_Order___init___T, G_Order___init___T, b_Order___init___T⟩ := ok_Order___init___T (P := P) (w := w) (base := base) T
  obtain ⟨fd_Order___init___C, G_Order___init___C, b_Order___init___C⟩ := ok_Order___init___C (P := P) (w := w) (base := base) T
  obtain ⟨fd__law_below_kept, G__law_below_kept, b__law_below_kept, k__law_below_kept, g__law_below_kept⟩ := ok__law_below_kept (P := P) (w := w) (base := base) T
  have nd := sc_law.nd
  refine (F.ok sc_law (fun vs H Q E h => ?_) (fun cdv A outer s H vs Q E hr h => ?_))
  · obtain ⟨G, ⟨script0, ⟨⟩⟩, r, e0, ⟨vscript0, _, rfl, hscript0, rfl⟩, h, k⟩ := h
    rfl
  · obtain ⟨G, ⟨script0, ⟨⟩⟩, r, e0, ⟨vscript0, _, rfl, hscript0, rfl⟩, h, k⟩ := h
    have w0 := Wo.start e0
    have h : m_law script0 = some r := h
    unfold m_law at h
    refine ⟨_, PSs.nox (pss_cons (ps_set (i := 1) nd rfl (Or.inl rfl) (pe_call G__law_pot (hr.mono (by decide)) rfl g__law_pot k__law_pot b__law_pot .nil pass0 (pa_cons (pv 0) pa_nil))) (pss_cons (ps_set (i := 2) nd rfl (Or.inl rfl) (pe_call G__law_masks (hr.mono (by decide)) rfl g__law_masks k__law_masks b__law_masks .nil pass0 (pa_cons (pv 1) (pa_cons pe_int pa_nil)))) (pss_cons (ps_set (i := 3) nd rfl (Or.inl rfl) (pe_call G__law_pairs_given (hr.mono (by decide)) rfl g__law_pairs_given k__law_pairs_given b__law_pairs_given .nil pass0 (pa_cons (pv 1) (pa_cons (pv 2) pa_nil)))) (pss_cons (ps_set (i := 4) nd rfl (Or.inl rfl) (pe_callTy (r := rLs K) call_list_of (by rfl) (fr_list T) (by decide +kernel) (pa_cons (pv 3) pa_nil))) (pss_cons (ps_set (i := 5) nd rfl (Or.inl rfl) (pe_cmpR op_eq (pe_call G__law_draw (hr.mono (by decide)) rfl g__law_draw k__law_draw b__law_draw .nil pass0 (pa_cons (pv 1) (pa_cons pe_int pa_nil))) pe_int (nomark _))) (pss_cons (ps_set (i := 6) nd rfl (Or.inl rfl) pe_non) (pss_cons (ps_try_thru0 (Evl.pss_cut (ps_if (pt_val (pv 5)) (pss_cons (ps_set (i := 6) nd rfl (Or.inl rfl) (pe_make (T.mkr 43 rfl) G_Order___init___T (hr.mono (by decide)) rfl (T.glo 15 rfl) b_Order___init___T .nil pass0 (pa_cons (pe_callB (r := rLn K) call_len_seq (by rfl) (fr_len T) (by decide +kernel) (pa_cons (pv 2) pa_nil)) (pa_cons (pe_callTy (r := rTp K) call_tuple_of (by rfl) (fr_tuple T) (by decide +kernel) (pa_cons (pv 3) pa_nil)) pa_nil)))) pss_nil) (pss_cons (ps_set (i := 6) nd rfl (Or.inl rfl) (pe_make (T.mkr 43 rfl) G_Order___init___C (hr.mono (by decide)) rfl (T.glo 15 rfl) b_Order___init___C .nil pass0 (pa_cons (pe_callB (r := rLn K) call_len_seq (by rfl) (fr_len T) (by decide +kernel) (pa_cons (pv 2) pa_nil)) (pa_cons (pv 4) pa_nil)))) pss_nil)) pss_nil)) (pss_cons (ps_if (PW.pt (pw_or (pt_cmpR op_isN (pv 6) pe_non (nomark _)) (pw_or1 (pt_cmpR (r := rNeD K) (op_neD hr.units) (pv 4) (pv 3) (nomark _))))) (pss_cons (ps_ret pe_bl) pss_nil) pss_nil) (pss_cons (ps_if (pt_not (pt_val (pe_call G__law_below_kept (hr.mono (by decide)) rfl g__law_below_kept k__law_below_kept b__law_below_kept .nil pass0 (pa_cons (pv 6) (pa_cons (pv 2) pa_nil))))) (pss_cons (ps_ret pe_bl) pss_nil) pss_nil) (pss_cons (ps_expr (pe_bm0 PySem.F.plainAttrs_list PySem.F.slot_list_clear PySem.F.type_list_clear mt_clear (pv 4))) (pss_cons (ps_ret (pe_call G__law_below_kept (hr.mono (by decide)) rfl g__law_below_kept k__law_below_kept b__law_below_kept .nil pass0 (pa_cons (pv 6) (pa_cons (pv 2) pa_nil)))) pss_nil))))))))))), ?_⟩
    obtain ⟨pot_here_2609, hx2610, h⟩ := bindS h
    refine x_setL w0 (el_call (ea_cons (e_var (R := (rScr K)) (x := script0) rfl hscript0) ea_nil)) hx2610 ?_
    intro p2613 H2611 G2614 n2615 w2612 e2616
    have h2617 := Rep.mono _ e2616 hscript0
    refine x_setO ?_
    refine o_call ?_
    refine o_cons ?_
    refine o_var rfl ?_
    refine o_cons ?_
    obtain ⟨x2618, hx2619, h⟩ := bindS h
    refine c_i w2612 e_int hx2619 ?_
    intro H2620 w2621
    refine o_nil ?_
    obtain ⟨x2623, hx2624, h⟩ := bindS h
    refine c_p1l (i := 0) (j := (x2618, ())) w2621 rfl ⟨_, _, rfl, rfl, rfl⟩ hx2624 ?_
    intro p2627 H2625 G2628 n2629 w2626 e2630
    have h2631 := Rep.mono _ e2630 h2617
    have w2626 : Wo G H [] G2628 H2625 [(p2627, cL rI x2623.1), (p2613, cL rI x2623.2)] := w2626
    obtain ⟨G2632, w2633, e2634, h2635⟩ := w2626.freezeAt (i := 0) rfl n2629
    have h2636 := Rep.mono _ e2634 h2631
    have w2633 : Wo G H [] G2632 H2625 [(p2613, cL rI x2623.2)] := w2633
    refine x_setO ?_
    refine o_call ?_
    refine o_cons ?_
    refine o_var rfl ?_
    refine o_cons ?_
    obtain ⟨x2637, hx2638, h⟩ := bindS h
    refine c_e w2633 (e_var (R := (rL rI)) (x := x2623.1) rfl h2635) hx2638 ?_
    intro v2641 H2639 G2642 w2640 e2643 h2644
    have h2645 := Rep.mono _ e2643 h2636
    have h2646 := Rep.mono _ e2643 h2635
    refine o_nil ?_
    obtain ⟨x2648, hx2649, h⟩ := bindS h
    refine c_p1l (i := 0) (j := (x2637, ())) w2640 rfl ⟨_, _, rfl, h2644, rfl⟩ hx2649 ?_
    intro p2652 H2650 G2653 n2654 w2651 e2655
    have h2656 := Rep.mono _ e2655 h2645
    have h2657 := Rep.mono _ e2655 h2646
    have h2658 := Rep.mono _ e2655 h2644
    have w2651 : Wo G H [] G2653 H2650 [(p2652, cL (rP rI rI) x2648.1), (p2613, cL rI x2648.2)] := w2651
    obtain ⟨G2659, w2660, e2661, h2662⟩ := w2651.freezeAt (i := 0) rfl n2654
    have h2663 := Rep.mono _ e2661 h2656
    have h2664 := Rep.mono _ e2661 h2657
    have w2660 : Wo G H [] G2659 H2650 [(p2613, cL rI x2648.2)] := w2660
    obtain ⟨handed_2665, hx2666, h⟩ := bindS h
    refine x_setL w2660 (el_cb rc_listL (ea_cons (e_var (R := (rL (rP rI rI))) (x := x2648.1) rfl h2662) ea_nil)) hx2666 ?_
    intro p2669 H2667 G2670 n2671 w2668 e2672
    have h2673 := Rep.mono _ e2672 h2663
    have h2674 := Rep.mono _ e2672 h2664
    have h2675 := Rep.mono _ e2672 h2662
    refine x_setO ?_
    refine o_op ?_
    refine o_call ?_
    refine o_cons ?_
    refine o_var rfl ?_
    refine o_cons ?_
    obtain ⟨x2676, hx2677, h⟩ := bindS h
    refine c_i w2668 e_int hx2677 ?_
    intro H2678 w2679
    refine o_nil ?_
    obtain ⟨x2681, hx2682, h⟩ := bindS h
    refine c_p1 (i := 1) (j := (x2676, ())) w2679 rfl ⟨_, _, rfl, rfl, rfl⟩ hx2682 ?_
    intro u2683 H2684 G2685 w2686 e2687 r2688
    have h2689 := Rep.mono _ e2687 h2673
    have h2690 := Rep.mono _ e2687 h2674
    have h2691 := Rep.mono _ e2687 h2675
    cases r2688
    have w2686 : Wo G H [] G2685 H2684 [(p2669, cL (rP rI rI) handed_2665), (p2613, cL rI x2681.2)] := w2686
    obtain ⟨x2693, hx2694, h⟩ := bindS h
    refine c_i w2686 e_int hx2694 ?_
    intro H2695 w2696
    obtain ⟨x2697, hx2698, h⟩ := bindS h
    refine c_rr rr_eqI w2696 rfl rfl hx2698 ?_
    intro u2699 H2700 G2701 w2702 e2703 r2704
    have h2705 := Rep.mono _ e2703 h2689
    have h2706 := Rep.mono _ e2703 h2690
    have h2707 := Rep.mono _ e2703 h2691
    cases r2704
    obtain ⟨order_2708, hx2709, h⟩ := bindS h
    refine x_set w2702 (e_none (R := (r_Order K))) hx2709 ?_
    intro v2712 H2710 G2713 w2711 e2714 h2715
    have h2716 := Rep.mono _ e2714 h2705
    have h2717 := Rep.mono _ e2714 h2706
    have h2718 := Rep.mono _ e2714 h2707
    refine o_try ?_
    obtain ⟨s2746, hx2747, h⟩ := bindS h
    refine o_cut (fun σ' H' => ∃ v2748 : V, ∃ G' : Hp, Wo G H [] G' H' [(p2669, cL (rP rI rI) handed_2665), (p2613, cL rI x2681.2)] ∧ Evl.Ex G2713 G' ∧ σ' = [some vscript0, some (V.ref p2613), some (V.ref p2627), some (V.ref p2652), some (V.ref p2669), some (V.bl x2697), some v2748] ∧ (rO (r_Order K)).r G' v2748 s2746) ?_ ?_
    · obtain ⟨b2719, hx2753, hx2747⟩ := bindS hx2747
      refine x_if w2711 (et_B (e_var (R := rB) (x := x2697) rfl rfl)) hx2753 ?_ ?_
      · intro hbb2719 H2754 w2755
        subst hbb2719
        obtain ⟨order_2757, hx2758, hx2747⟩ := bindS hx2747
        refine x_set w2755 (e_some (e_make (ea_cons (e_cb rc_lenL (ea_cons (e_var (R := (rL rI)) (x := x2623.1) rfl h2717) ea_nil)) (ea_cons (e_cb rc_tupleL (ea_cons (e_var (R := (rL (rP rI rI))) (x := x2648.1) rfl h2718) ea_nil)) ea_nil)))) (by first | exact hx2758 | (simp only [Option.bind_eq_bind, Option.bind_some, Option.bind_assoc] at hx2758 ⊢; exact hx2758)) ?_
        intro v2761 H2759 G2762 w2760 e2763 h2764
        have h2765 := Rep.mono _ e2763 h2716
        have h2766 := Rep.mono _ e2763 h2717
        have h2767 := Rep.mono _ e2763 h2718
        have h2768 := Rep.mono _ e2763 h2715
        refine x_next ?_
        have hx2747 : order_2757 = s2746 := Option.some.inj hx2747
        subst hx2747
        exact ⟨v2761, G2762, w2760, e2763, rfl, h2764⟩
      · intro hbb2719 H2769 w2770
        subst hbb2719
        obtain ⟨order_2772, hx2773, hx2747⟩ := bindS hx2747
        refine x_set w2770 (e_some (e_makeB (ea_cons (e_cb rc_lenL (ea_cons (e_var (R := (rL rI)) (x := x2623.1) rfl h2717) ea_nil)) (ea_cons (e_var (R := rA) (x := p2669) rfl rfl) ea_nil)) (w2770.lent (i := 0) rfl) (fun _ h => by cases h; rfl))) (by first | exact hx2773 | (simp only [Option.bind_eq_bind, Option.bind_some, Option.bind_assoc] at hx2773 ⊢; exact hx2773)) ?_
        intro v2776 H2774 G2777 w2775 e2778 h2779
        have h2780 := Rep.mono _ e2778 h2716
        have h2781 := Rep.mono _ e2778 h2717
        have h2782 := Rep.mono _ e2778 h2718
        have h2783 := Rep.mono _ e2778 h2715
        refine x_next ?_
        have hx2747 : order_2772 = s2746 := Option.some.inj hx2747
        subst hx2747
        exact ⟨v2776, G2777, w2775, e2778, rfl, h2779⟩
    · rintro σ' H2788 ⟨v2748, G2784, w2751, e2750, rfl, h2749⟩
      have h2785 := Rep.mono _ e2750 h2716
      have h2786 := Rep.mono _ e2750 h2717
      have h2787 := Rep.mono _ e2750 h2718
      refine x_next ?_
      obtain ⟨b2789, hx2790, h⟩ := bindS h
      refine x_if w2751 (et_orP (et_T (e_op (rr_isN nnO_) (e_var (R := (rO (r_Order K))) (x := s2746) rfl (Rep.mono _ w2751.ex h2749)) e_non)) (et_T (e_op (rr_neD (dtL (dtP dtI dtI)) (by decide)) (e_var (R := rL (rP rI rI)) (x := handed_2665) rfl (w2751.rlAt (i := 0) rfl)) (e_var (R := (rL (rP rI rI))) (x := x2648.1) rfl (Rep.mono _ w2751.ex h2787))))) hx2790 ?_ ?_
      · intro hbb2789 H2791 w2792
        subst hbb2789
        obtain ⟨a2793, hx2794, h⟩ := bindS h
        have h : a2793 = r := Option.some.inj h
        subst h
        exact x_ret w2792 e_bl hx2794 (fun v9 H9 G9 w9 e9 r9 => k v9 H9 G9 w9.upE r9)
      · intro hbb2789 H2795 w2796
        subst hbb2789
        refine x_next ?_
        obtain ⟨b2799, hx2800, h⟩ := bindS h
        refine x_if w2796 (et_not (et_B (e_call (ea_cons (e_get (e_var (R := (rO (r_Order K))) (x := s2746) rfl (Rep.mono _ w2796.ex h2749))) (ea_cons (e_var (R := (rL rI)) (x := x2623.1) rfl (Rep.mono _ w2796.ex h2786)) ea_nil))))) (by first | exact hx2800 | (simp only [Option.bind_eq_bind, Option.bind_some, Option.bind_assoc] at hx2800 ⊢; exact hx2800)) ?_ ?_
        · intro hbb2799 H2801 w2802
          subst hbb2799
          obtain ⟨a2803, hx2804, h⟩ := bindS h
          have h : a2803 = r := Option.some.inj h
          subst h
          exact x_ret w2802 e_bl hx2804 (fun v9 H9 G9 w9 e9 r9 => k v9 H9 G9 w9.upE r9)
        · intro hbb2799 H2805 w2806
          subst hbb2799
          refine x_next ?_
          refine x_drop ?_
          obtain ⟨handed_2807, hx2808, h⟩ := bindS h
          cases hx2808
          refine o_bm0 (j := 0) w2806 rfl rfl (c_clear (j := 0) w2806 rfl ?_)
          intro H2809 w2810
          have w2810 : Wo G H [] G2784 H2809 [(p2669, cL (rP rI rI) ([] : (List (Int × Int)))), (p2613, cL rI x2681.2)] := w2810
          obtain ⟨a2812, hx2813, h⟩ := bindS h
          have h : a2812 = r := Option.some.inj h
          subst h
          exact x_ret w2810 (e_call (ea_cons (e_get (e_var (R := (rO (r_Order K))) (x := s2746) rfl h2749)) (ea_cons (e_var (R := (rL rI)) (x := x2623.1) rfl h2786) ea_nil))) (by first | exact hx2813 | (simp only [Option.bind_eq_bind, Option.bind_some, Option.bind_assoc] at hx2813 ⊢; exact hx2813)) (fun v9 H9 G9 w9 e9 r9 => k v9 H9 G9 w9.upE r9)
end
end My
namespace My
open PySem L2 Sim
section
variable {α β γ σ ρ : Type}
theorem bs {a : α} {f : α → Option β} : Option.bind (some a) f = f a := Eq.trans (Option.bind_some a f) (Eq.refl _)
def tab (n : Nat) (f : Nat → α) : List α := (List.range n).map f
theorem tab_len {n : Nat} {f : Nat → α} : (tab n f).length = n := by simp [tab]
theorem tab_get {n : Nat} {f : Nat → α} {i : Nat} (h : i < n) : (tab n f)[i]? = some (f i) := by
  simp [tab, List.getElem?_map, List.getElem?_range h]
theorem tab_mem {n : Nat} {f : Nat → α} {x : α} : x ∈ tab n f ↔ ∃ i, i < n ∧ f i = x := by simp [tab]
theorem tab_congr {n : Nat} {f g : Nat → α} (h : ∀ i < n, f i = g i) : tab n f = tab n g :=
  List.map_congr_left fun i hi => h i (List.mem_range.mp hi)
theorem ixN_nat {n i : Nat} (h : i < n) : ixN n (i : Int) = some i := by
  unfold ixN
  rw [if_pos (by omega), if_pos (by omega)]
  rfl
theorem atI_nat {xs : List α} {i : Nat} (h : i < xs.length) : atI xs (i : Int) = some xs[i] := by
  unfold atI
  rw [ixN_nat h]
  exact List.getElem?_eq_getElem h
theorem atI_tab {n : Nat} {f : Nat → α} {i : Nat} (h : i < n) : atI (tab n f) (i : Int) = some (f i) := by
  unfold atI
  rw [ixN_nat (by rw [tab_len]; exact h)]
  exact tab_get h
theorem rngM0 {n : Nat} (h : n ≤ 100000) : rngM 0 (n : Int) = some (tab n fun i => (i : Int)) := by
  unfold rngM
  rw [if_pos (by omega)]
  unfold rng tab
  simp
theorem rngM1 {i n : Nat} (h : n ≤ 100000) (h' : i ≤ 100000) : rngM ((i : Int)) (n : Int) = some (tab (n - i) fun k => ((i + k : Nat) : Int)) := by
  unfold rngM
  rw [if_pos (by omega)]
  unfold rng tab
  have : ((n : Int) - (i : Int)).toNat = n - i := by omega
  rw [this]
  simp
theorem mapO_map {f : β → Option γ} {a : α → β} {g : α → γ} : ∀ {xs : List α}, (∀ x ∈ xs, f (a x) = some (g x)) → mapO f (xs.map a) = some (xs.map g)
  | [], _ => rfl
  | x :: xs, h => by
    show (f (a x) >>= fun y => mapO f (xs.map a) >>= fun ys => some (y :: ys)) = _
    rw [h x (List.mem_cons_self ..), mapO_map (fun y hy => h y (List.mem_cons_of_mem _ hy))]
    rfl
theorem lcM_map {p' : β → Option Bool} {f : β → Option γ} {a : α → β} {p : α → Bool} {g : α → γ} : ∀ {xs : List α}, (∀ x ∈ xs, p' (a x) = some (p x)) → (∀ x ∈ xs, f (a x) = some (g x)) →
    lcM p' f (xs.map a) = some ((xs.filter p).map g)
  | [], _, _ => rfl
  | x :: xs, h, h' => by
    show (p' (a x) >>= fun b => bif b then f (a x) >>= fun y => lcM p' f (xs.map a) >>= fun ys => some (y :: ys) else lcM p' f (xs.map a)) = _
    rw [h x (List.mem_cons_self ..), lcM_map (fun y hy => h y (List.mem_cons_of_mem _ hy)) (fun y hy => h' y (List.mem_cons_of_mem _ hy)), h' x (List.mem_cons_self ..)]
    cases e : p x <;> simp [List.filter_cons, e]
theorem sz_t {n : Nat} (h : n < 100000) : sz n = true := by simp [sz, h]
theorem mapS_tab {n : Nat} {a : Nat → β} {f : β → Option γ} {g : Nat → γ} (hn : n < 100000) (h : ∀ i < n, f (a i) = some (g i)) : mapS f (tab n a) = some (tab n g) := by
  unfold mapS
  rw [tab_len, sz_t hn]
  exact mapO_map fun x hx => h x (List.mem_range.mp hx)
theorem mapS_map {xs : List α} {f : α → Option β} {g : α → β} (hn : xs.length < 100000) (h : ∀ x ∈ xs, f x = some (g x)) : mapS f xs = some (xs.map g) := by
  unfold mapS
  rw [sz_t hn]
  have := mapO_map (f := f) (a := id) (g := g) (xs := xs) h
  rwa [List.map_id] at this
theorem lcS_tab {n : Nat} {a : Nat → β} {p' : β → Option Bool} {f : β → Option γ} {p : Nat → Bool} {g : Nat → γ} (hn : n < 100000) (h : ∀ i < n, p' (a i) = some (p i)) (h' : ∀ i < n, f (a i) = some (g i)) :
    lcS p' f (tab n a) = some (((List.range n).filter p).map g) := by
  unfold lcS
  rw [tab_len, sz_t hn]
  exact lcM_map (fun x hx => h x (List.mem_range.mp hx)) (fun x hx => h' x (List.mem_range.mp hx))
theorem lcS_map {xs : List α} {a : α → β} {p' : β → Option Bool} {f : β → Option γ} {p : α → Bool} {g : α → γ} (hn : xs.length < 100000) (h : ∀ x ∈ xs, p' (a x) = some (p x)) (h' : ∀ x ∈ xs, f (a x) = some (g x)) :
    lcS p' f (xs.map a) = some ((xs.filter p).map g) := by
  unfold lcS
  rw [List.length_map, sz_t hn]
  exact lcM_map h h'
theorem forL_nx {body : α → Unit → Option (Stp Unit ρ)} : ∀ {xs : List α}, (∀ x ∈ xs, body x () = some (.nx ())) → forL body xs () = some (.inl ())
  | [], _ => rfl
  | x :: xs, h => by
    show (body x () >>= stpK (forL body xs)) = _
    rw [h x (List.mem_cons_self ..)]
    exact forL_nx fun y hy => h y (List.mem_cons_of_mem _ hy)
theorem forL_nxT {body : α → Unit → Option (Stp Unit ρ)} {n : Nat} {a : Nat → α} (h : ∀ i < n, body (a i) () = some (.nx ())) : forL body (tab n a) () = some (.inl ()) :=
  forL_nx fun x hx => by obtain ⟨i, hi, rfl⟩ := tab_mem.mp hx; exact h i hi
theorem forL_find {body : β → Unit → Option (Stp Unit ρ)} {a : α → β} {p : α → Bool} {g : α → ρ} : ∀ {xs : List α}, (∀ x ∈ xs, body (a x) () = some (bif p x then .rt (g x) else .nx ())) →
    forL body (xs.map a) () = some (match xs.find? p with | some x => .inr (g x) | none => .inl ())
  | [], _ => rfl
  | x :: xs, h => by
    show (body (a x) () >>= stpK (forL body (xs.map a))) = _
    rw [h x (List.mem_cons_self ..)]
    cases e : p x
    · rw [List.find?_cons, e]
      exact forL_find fun y hy => h y (List.mem_cons_of_mem _ hy)
    · rw [List.find?_cons, e]; rfl
theorem forS_un {body : α → Unit → Option Unit} : ∀ {xs : List α}, (∀ x ∈ xs, body x () = some ()) → forS body xs () = some ()
  | [], _ => rfl
  | x :: xs, h => by
    show (body x () >>= forS body xs) = _
    rw [h x (List.mem_cons_self ..)]
    exact forS_un fun y hy => h y (List.mem_cons_of_mem _ hy)
/-- a loop that keeps something -/
theorem forS_keep {body : α → σ → Option σ} {I : Nat → σ → Prop} : ∀ {xs : List α} {k : Nat} {s : σ}, I k s → (∀ x ∈ xs, ∀ j s, k ≤ j → j < k + xs.length → I j s → ∃ s', body x s = some s' ∧ I (j + 1) s') →
    ∃ s', forS body xs s = some s' ∧ I (k + xs.length) s'
  | [], k, s, h, _ => ⟨s, rfl, h⟩
  | x :: xs, k, s, h, hs => by
    obtain ⟨s1, e1, h1⟩ := hs x (List.mem_cons_self ..) k s (Nat.le_refl _) (by simp) h
    obtain ⟨s2, e2, h2⟩ := forS_keep (xs := xs) (k := k + 1) h1 fun y hy j t hj hj' => hs y (List.mem_cons_of_mem _ hy) j t (by omega) (by simp; omega)
    refine ⟨s2, ?_, ?_⟩
    · show (body x s >>= forS body xs) = _
      rw [e1]; exact e2
    · have : k + (x :: xs).length = k + 1 + xs.length := by simp; omega
      rw [this]; exact h2
/-- a loop whose k-th state is told -/
theorem forS_tab {body : α → σ → Option σ} {a : Nat → α} {S : Nat → σ} {n : Nat} (h : ∀ i < n, body (a i) (S i) = some (S (i + 1))) : forS body (tab n a) (S 0) = some (S n) := by
  suffices h' : ∀ m k, k + m = n → forS body ((List.range' k m).map a) (S k) = some (S n) by
    have := h' n 0 (by omega)
    rw [← List.range_eq_range'] at this
    exact this
  intro m
  induction m with
  | zero => intro k hk; have : k = n := by omega
            subst this; rfl
  | succ m ih =>
    intro k hk
    show (body (a k) (S k) >>= forS body ((List.range' (k + 1) m).map a)) = _
    rw [h k (by omega)]
    exact ih (k + 1) (by omega)
end

abbrev tab2 (n : Nat) (R : Nat → Nat → α) : List (List α) := tab n fun a => tab n fun b => R a b
theorem atI2 {n : Nat} {R : Nat → Nat → α} {a b : Nat} (ha : a < n) (hb : b < n) : (atI (tab2 n R) (a : Int) >>= fun t => atI t (b : Int)) = some (R a b) := by
  rw [atI_tab ha]
  exact atI_tab hb
theorem tab2_congr {n : Nat} {R S : Nat → Nat → α} (h : ∀ a < n, ∀ b < n, R a b = S a b) : tab2 n R = tab2 n S :=
  tab_congr fun a ha => tab_congr fun b hb => h a ha b hb
theorem mul_small {a b : Nat} (ha : a ≤ 12) : mulM (a : Int) (b : Int) = some (((a * b : Nat)) : Int) := by
  unfold mulM
  rw [if_pos (Or.inl (by omega))]
  simp
/-- the pairs lie below n -/
def InR (n : Nat) (ps : List (Int × Int)) : Prop := ∀ p ∈ ps, ∃ a b : Nat, a < n ∧ b < n ∧ p = ((a : Int), (b : Int))
theorem InR.tail {n : Nat} {p} {ps : List (Int × Int)} (h : InR n (p :: ps)) : InR n ps := fun q hq => h q (List.mem_cons_of_mem _ hq)
theorem ix_lt {n a b : Nat} (ha : a < n) (hb : b < n) : a * n + b < n * n := by
  have : (a + 1) * n ≤ n * n := Nat.mul_le_mul_right n ha
  rw [Nat.succ_mul] at this
  omega
theorem ix_inj {n a b c d : Nat} (hb : b < n) (hd : d < n) (h : a * n + b = c * n + d) : a = c ∧ b = d := by
  have e : (a * n + b) / n = (c * n + d) / n := by rw [h]
  have e2 : (a * n + b) % n = (c * n + d) % n := by rw [h]
  rw [Nat.mul_comm a n, Nat.mul_comm c n, Nat.mul_add_div (by omega), Nat.mul_add_div (by omega), Nat.div_eq_of_lt hb, Nat.div_eq_of_lt hd] at e
  rw [Nat.mul_comm a n, Nat.mul_comm c n, Nat.mul_add_mod, Nat.mul_add_mod, Nat.mod_eq_of_lt hb, Nat.mod_eq_of_lt hd] at e2
  exact ⟨by omega, e2⟩
theorem cl_b1 {n : Nat} (hn : n ≤ 12) : ∀ {ps : List (Int × Int)} {s : List Bool} {D : Nat → Nat → Bool}, InR n ps → s.length = n * n → (∀ a < n, ∀ b < n, s[a * n + b]? = some (D a b)) →
    ∃ s', forS (m_closure_b1 (n : Int)) ps s = some s' ∧ s'.length = n * n ∧ ∀ a < n, ∀ b < n, s'[a * n + b]? = some (D a b || decide (((a : Int), (b : Int)) ∈ ps))
  | [], s, D, _, hl, hs => ⟨s, rfl, hl, fun a ha b hb => by simp [hs a ha b hb]⟩
  | p :: ps, s, D, hp, hl, hs => by
    obtain ⟨c, d, hc, hd, rfl⟩ := hp _ (List.mem_cons_self ..)
    have e1 : m_closure_b1 (n : Int) ((c : Int), (d : Int)) s = some (s.set (c * n + d) true) := by
      simp only [m_closure_b1, mul_small (show c ≤ 12 by omega), Option.bind_eq_bind, Option.bind_some]
      rw [show ((c * n : Nat) : Int) + (d : Int) = ((c * n + d : Nat) : Int) by simp]
      unfold setM
      rw [ixN_nat (by rw [hl]; exact ix_lt hc hd)]
      rfl
    obtain ⟨s', e2, h1, h2⟩ := cl_b1 hn (ps := ps) (s := s.set (c * n + d) true) (D := fun a b => D a b || decide (((a : Int), (b : Int)) = ((c : Int), (d : Int)))) hp.tail (by rw [List.length_set]; exact hl) (by
      intro a ha b hb
      rw [List.getElem?_set]
      by_cases e : c * n + d = a * n + b
      · obtain ⟨h1, h2⟩ := ix_inj hd hb e
        subst h1; subst h2
        simp [hl, ix_lt hc hd]
      · rw [if_neg e, hs a ha b hb]
        have : ¬ (((a : Int), (b : Int)) = ((c : Int), (d : Int))) := by
          intro q
          rw [Prod.mk.injEq] at q
          apply e
          rw [show a = c by omega, show b = d by omega]
        simp [this])
    refine ⟨s', ?_, h1, fun a ha b hb => ?_⟩
    · show (m_closure_b1 (n : Int) ((c : Int), (d : Int)) s >>= forS (m_closure_b1 (n : Int)) ps) = _
      rw [e1]; exact e2
    · rw [h2 a ha b hb]
      simp [List.mem_cons, Bool.or_assoc]
def wst (m : Nat) (R : Nat → Nat → Bool) (a b : Nat) : Bool := R a b || (R a m && R m b)
def wsh (R : Nat → Nat → Bool) : Nat → Nat → Nat → Bool
  | 0 => R
  | k + 1 => wst k (wsh R k)
theorem cl_b2 {n m : Nat} {R : Nat → Nat → Bool} (hn : n ≤ 12) (hm : m < n) : m_closure_b2 (n : Int) (m : Int) (tab2 n R) = some (tab2 n (wst m R)) := by
  unfold m_closure_b2
  rw [rngM0 (by omega)]
  simp only [Option.bind_eq_bind, Option.bind_some]
  rw [mapS_tab (g := fun a => tab n fun b => wst m R a b) (by omega)]
  · rfl
  · intro a ha
    rw [mapS_tab (g := fun b => wst m R a b) (by omega)]
    intro b hb
    have h1 := atI2 (R := R) ha hb
    have h2 := atI2 (R := R) ha hm
    have h3 := atI2 (R := R) hm hb
    simp only [Option.bind_eq_bind] at h1 h2 h3
    rw [h1, h2, h3]
    unfold orO andO wst
    cases R a b <;> cases R a m <;> rfl
theorem m_closure_eq {n : Nat} {ps : List (Int × Int)} (hn : n ≤ 12) (hp : InR n ps) :
    m_closure (n : Int) ps = some (tab2 n (wsh (fun a b => a == b || decide (((a : Int), (b : Int)) ∈ ps)) n)) := by
  unfold m_closure
  rw [mul_small hn]
  simp only [Option.bind_eq_bind, Option.bind_some]
  have hnn : n * n ≤ 144 := Nat.mul_le_mul hn hn
  rw [rngM0 (by omega)]
  simp only [Option.bind_some]
  rw [mapS_tab (f := fun _ => some false) (g := fun _ => false) (by omega) (fun _ _ => rfl)]
  simp only [Option.bind_some]
  obtain ⟨s, e, h1, h2⟩ := cl_b1 hn (s := tab (n * n) fun _ => false) (D := fun _ _ => false) hp tab_len (fun a ha b hb => tab_get (ix_lt ha hb))
  rw [e]
  simp only [Option.bind_some]
  rw [rngM0 (by omega)]
  simp only [Option.bind_some]
  rw [mapS_tab (g := fun a => tab n fun b => (a == b || decide (((a : Int), (b : Int)) ∈ ps))) (by omega)]
  · simp only [Option.bind_some]
    have hf := forS_tab (body := m_closure_b2 (n : Int)) (a := fun i : Nat => (i : Int)) (n := n) (S := fun k => tab2 n (wsh (fun a b => a == b || decide (((a : Int), (b : Int)) ∈ ps)) k)) (fun i hi => cl_b2 hn hi)
    exact congrArg (fun z => z.bind some) hf
  · intro a ha
    rw [mapS_tab (g := fun b => (a == b || decide (((a : Int), (b : Int)) ∈ ps))) (by omega)]
    intro b hb
    rw [mul_small (by omega)]
    simp only [Option.bind_some]
    rw [show ((a * n : Nat) : Int) + (b : Int) = ((a * n + b : Nat) : Int) by simp]
    have : atI s ((a * n + b : Nat) : Int) = some (decide (((a : Int), (b : Int)) ∈ ps)) := by
      unfold atI
      rw [ixN_nat (by rw [h1]; exact ix_lt ha hb)]
      have := h2 a ha b hb
      simpa using this
    rw [this]
    unfold orO
    by_cases e : a = b
    · subst e; simp
    · have : ((a : Int) == (b : Int)) = false := by simp; omega
      rw [this]; simp [e]
theorem m_closure_T_eq (n : Int) (ps : List (Int × Int)) : m_closure_T n ps = m_closure n ps := rfl
theorem m_closure_C_eq (n : Int) (ps : List (Int × Int)) : m_closure_C n ps = m_closure n ps := rfl

/-! ### Warshall -/
theorem wsh_mono {R : Nat → Nat → Bool} {a b : Nat} : ∀ {k}, R a b = true → wsh R k a b = true
  | 0, h => h
  | k + 1, h => by
    show wst k (wsh R k) a b = true
    unfold wst
    rw [wsh_mono (k := k) h]
    rfl
theorem wsh_inv {R : Nat → Nat → Bool} : ∀ {k m a b}, m < k → wsh R k a m = true → wsh R k m b = true → wsh R k a b = true
  | k + 1, m, a, b, hm, h1, h2 => by
    have h1 : (wsh R k a m || (wsh R k a k && wsh R k k m)) = true := h1
    have h2 : (wsh R k m b || (wsh R k m k && wsh R k k b)) = true := h2
    show (wsh R k a b || (wsh R k a k && wsh R k k b)) = true
    simp only [Bool.or_eq_true, Bool.and_eq_true] at h1 h2 ⊢
    by_cases e : m = k
    · subst e
      rcases h1 with h1 | h1 <;> rcases h2 with h2 | h2 <;> simp_all
    · have hk : m < k := by omega
      have I := fun {a b : Nat} => wsh_inv (R := R) (k := k) (m := m) (a := a) (b := b) hk
      rcases h1 with h1 | ⟨h1, h1'⟩
      · rcases h2 with h2 | ⟨h2, h2'⟩
        · exact Or.inl (I h1 h2)
        · exact Or.inr ⟨I h1 h2, h2'⟩
      · rcases h2 with h2 | ⟨h2, h2'⟩
        · exact Or.inr ⟨h1, I h1' h2⟩
        · exact Or.inr ⟨h1, h2'⟩
theorem wsh_sound {R : Nat → Nat → Bool} {S : Nat → Nat → Prop} {n : Nat} (ht : ∀ a b c, a < n → b < n → c < n → S a b → S b c → S a c) (hR : ∀ a b, a < n → b < n → R a b = true → S a b) :
    ∀ {k a b}, k ≤ n → a < n → b < n → wsh R k a b = true → S a b
  | 0, a, b, _, ha, hb, h => hR a b ha hb h
  | k + 1, a, b, hk, ha, hb, h => by
    have h : (wsh R k a b || (wsh R k a k && wsh R k k b)) = true := h
    simp only [Bool.or_eq_true, Bool.and_eq_true] at h
    have I := fun {a b : Nat} => wsh_sound (S := S) ht hR (k := k) (a := a) (b := b) (by omega)
    rcases h with h | ⟨h, h'⟩
    · exact I ha hb h
    · exact ht a k b ha (by omega) hb (I ha (by omega) h) (I (by omega) hb h')

/-- an order on the places below n, told by pairs -/
structure Ord (n : Nat) (le : Nat → Nat → Bool) : Prop where
  rf : ∀ a, a < n → le a a = true
  an : ∀ a b, a < n → b < n → le a b = true → le b a = true → a = b
  tr : ∀ a b c, a < n → b < n → c < n → le a b = true → le b c = true → le a c = true
/-- the pairs tell the order -/
structure Gens (n : Nat) (le : Nat → Nat → Bool) (ps : List (Int × Int)) : Prop where
  rg : InR n ps
  sd : ∀ a b, a < n → b < n → ((a : Int), (b : Int)) ∈ ps → le a b = true
  gn : ∀ S : Nat → Nat → Prop, (∀ a, a < n → S a a) → (∀ a b c, a < n → b < n → c < n → S a b → S b c → S a c) → (∀ a b, a < n → b < n → ((a : Int), (b : Int)) ∈ ps → S a b) → ∀ a b, a < n → b < n → le a b = true → S a b
theorem closure_le {n : Nat} {le : Nat → Nat → Bool} {ps : List (Int × Int)} (hn : n ≤ 12) (o : Ord n le) (g : Gens n le ps) : m_closure (n : Int) ps = some (tab2 n le) := by
  rw [m_closure_eq hn g.rg]
  congr 1
  refine tab2_congr fun a ha b hb => ?_
  cases e : le a b with
  | true =>
    refine g.gn (fun a b => wsh (fun a b => a == b || decide (((a : Int), (b : Int)) ∈ ps)) n a b = true) (fun a ha => wsh_mono (by simp)) (fun a b c ha hb hc h1 h2 => wsh_inv hb h1 h2) (fun a b ha hb h => wsh_mono (by simp [h])) a b ha hb e
  | false =>
    cases e2 : wsh (fun a b => a == b || decide (((a : Int), (b : Int)) ∈ ps)) n a b with
    | false => rfl
    | true =>
      have := wsh_sound (S := fun a b => le a b = true) (n := n) o.tr (fun a b ha hb h => by
        simp only [Bool.or_eq_true, decide_eq_true_eq, beq_iff_eq] at h
        rcases h with h | h
        · subst h; exact o.rf a ha
        · exact g.sd a b ha hb h) (Nat.le_refl n) ha hb e2
      rw [e] at this
      cases this
/-- every two have a least above -/
structure Lub (n : Nat) (le : Nat → Nat → Bool) (j : Nat → Nat → Nat) : Prop where
  lt : ∀ a b, a < n → b < n → j a b < n
  l : ∀ a b, a < n → b < n → le a (j a b) = true
  r : ∀ a b, a < n → b < n → le b (j a b) = true
  le : ∀ a b c, a < n → b < n → c < n → le a c = true → le b c = true → le (j a b) c = true
theorem least_above_eq {n : Nat} {le : Nat → Nat → Bool} {j : Nat → Nat → Nat} (hn : n ≤ 12) (o : Ord n le) (L : Lub n le j) {a b : Nat} (ha : a < n) (hb : b < n) :
    m_least_above (tab2 n le) (a : Int) (b : Int) = some (some ((j a b : Nat) : Int)) := by
  unfold m_least_above
  rw [tab_len, rngM0 (by omega)]
  simp only [Option.bind_eq_bind, Option.bind_some]
  rw [lcS_tab (p := fun c => le a c && le b c) (g := fun c => (c : Int)) (by omega) ?h1 (fun _ _ => rfl)]
  case h1 =>
    intro c hc
    have h1 := atI2 (R := le) ha hc
    have h2 := atI2 (R := le) hb hc
    simp only [Option.bind_eq_bind] at h1 h2
    rw [h1, h2]
    unfold andO
    cases le a c <;> rfl
  simp only [Option.bind_some]
  have hU : ∀ c, c ∈ (List.range n).filter (fun c => le a c && le b c) ↔ c < n ∧ le a c = true ∧ le b c = true := fun c => by simp [List.mem_filter]
  generalize hUe : (List.range n).filter (fun c => le a c && le b c) = U at hU
  have hl : U.length ≤ n := by rw [← hUe]; exact Nat.le_trans (List.length_filter_le _ _) (by simp)
  rw [forL_find (p := fun e => (U.filter (fun x => le e x)).length == U.length) (g := fun e => some ((e : Nat) : Int))]
  · have hj : j a b ∈ U := (hU _).mpr ⟨L.lt a b ha hb, L.l a b ha hb, L.r a b ha hb⟩
    have key : ∀ e ∈ U, ((U.filter (fun x => le e x)).length == U.length) = true ↔ e = j a b := by
      intro e he
      rw [beq_iff_eq, List.length_filter_eq_length_iff]
      obtain ⟨h1, h2, h3⟩ := (hU e).mp he
      constructor
      · intro h
        exact o.an e (j a b) h1 (L.lt a b ha hb) (h _ hj) (L.le a b e ha hb h1 h2 h3)
      · rintro rfl x hx
        obtain ⟨k1, k2, k3⟩ := (hU x).mp hx
        exact L.le a b x ha hb k1 k2 k3
    cases hf : U.find? (fun e => (U.filter (fun x => le e x)).length == U.length) with
    | none =>
      have := List.find?_eq_none.mp hf _ hj
      exact absurd ((key _ hj).mpr rfl) this
    | some e =>
      have h1 := List.mem_of_find?_eq_some hf
      have h2 := List.find?_some hf
      have := (key e h1).mp h2
      subst this
      rfl
  · intro e he
    obtain ⟨h1, _, _⟩ := (hU e).mp he
    unfold m_least_above_b1
    rw [lcS_map (p := fun x => le e x) (g := fun c => (c : Int)) (by omega) ?h2 (fun _ _ => rfl)]
    case h2 =>
      intro x hx
      obtain ⟨k1, _, _⟩ := (hU x).mp hx
      exact atI2 h1 k1
    simp only [Option.bind_eq_bind, Option.bind_some, List.length_map]
    have : (((U.filter fun x => le e x).length : Int) == (U.length : Int)) = ((U.filter fun x => le e x).length == U.length) := by
      cases h : ((U.filter fun x => le e x).length == U.length) with
      | true => rw [beq_iff_eq] at h; rw [h]; simp
      | false => rw [beq_eq_false_iff_ne] at h ⊢; omega
    rw [this]
    cases ((U.filter fun x => le e x).length == U.length) <;> rfl
theorem bounds_eq {n : Nat} {le : Nat → Nat → Bool} {j : Nat → Nat → Nat} (hn : n ≤ 12) (o : Ord n le) (L : Lub n le j) : m_bounds_table (tab2 n le) = some (tab2 n fun a b => some ((j a b : Nat) : Int)) := by
  unfold m_bounds_table
  rw [tab_len]
  simp only [Option.bind_eq_bind, Option.bind_some]
  rw [rngM0 (by omega)]
  simp only [Option.bind_some]
  rw [mapS_tab (g := fun a => tab n fun b => some ((j a b : Nat) : Int)) (by omega)]
  · rfl
  · intro a ha
    rw [mapS_tab (g := fun b => some ((j a b : Nat) : Int)) (by omega)]
    intro b hb
    exact least_above_eq hn o L ha hb
theorem first_ring_eq {n : Nat} {le : Nat → Nat → Bool} (hn : n ≤ 12) (o : Ord n le) : m_first_ring (tab2 n le) = some none := by
  unfold m_first_ring
  rw [tab_len]
  simp only [Option.bind_eq_bind, Option.bind_some]
  rw [rngM0 (by omega)]
  simp only [Option.bind_some]
  rw [forL_nxT]
  · rfl
  · intro a ha
    unfold m_first_ring_b1
    rw [tab_len]
    simp only [Option.bind_eq_bind, Option.bind_some]
    rw [show (a : Int) + 1 = ((a + 1 : Nat) : Int) by simp, rngM1 (by omega) (by omega)]
    simp only [Option.bind_some]
    rw [forL_nxT]
    · rfl
    · intro i hi
      have hb : a + 1 + i < n := by omega
      unfold m_first_ring_b2
      have h1 := atI2 (R := le) ha hb
      have h2 := atI2 (R := le) hb ha
      rw [h1, h2]
      unfold andO
      cases e1 : le a (a + 1 + i) with
      | false => rfl
      | true =>
        cases e2 : le (a + 1 + i) a with
        | false => rfl
        | true => exact absurd (o.an _ _ ha hb e1 e2) (by omega)
theorem first_lack_eq {n : Nat} {j : Nat → Nat → Int} (hn : n ≤ 12) : m_first_lack (tab2 n fun a b => some (j a b)) = some none := by
  unfold m_first_lack
  rw [tab_len]
  simp only [Option.bind_eq_bind, Option.bind_some]
  rw [rngM0 (by omega)]
  simp only [Option.bind_some]
  rw [forL_nxT]
  · rfl
  · intro a ha
    unfold m_first_lack_b1
    rw [tab_len]
    simp only [Option.bind_eq_bind, Option.bind_some]
    rw [show (a : Int) + 1 = ((a + 1 : Nat) : Int) by simp, rngM1 (by omega) (by omega)]
    simp only [Option.bind_some]
    rw [forL_nxT]
    · rfl
    · intro i hi
      have hb : a + 1 + i < n := by omega
      unfold m_first_lack_b2
      have h1 := atI2 (R := fun a b => some (j a b)) ha hb
      rw [h1]
      rfl
theorem turned_eq {n : Nat} {le : Nat → Nat → Bool} (hn : n ≤ 12) : m_turned (tab2 n le) = some (tab2 n fun a b => le b a) := by
  unfold m_turned
  rw [tab_len, rngM0 (by omega)]
  simp only [Option.bind_eq_bind, Option.bind_some]
  rw [mapS_tab (g := fun a => tab n fun b => le b a) (by omega)]
  · rfl
  · intro a ha
    rw [mapS_tab (g := fun b => le b a) (by omega)]
    intro b hb
    exact atI2 hb ha
theorem Ord.op {n : Nat} {le : Nat → Nat → Bool} (o : Ord n le) : Ord n (fun a b => le b a) :=
  ⟨o.rf, fun a b ha hb h1 h2 => o.an a b ha hb h2 h1, fun a b c ha hb hc h1 h2 => o.tr c b a hc hb ha h2 h1⟩
theorem maxL_some : ∀ {xs : List Int}, xs ≠ [] → ∃ m, maxL xs = some m
  | [], h => absurd rfl h
  | [x], _ => ⟨x, rfl⟩
  | x :: y :: ys, _ => by
    obtain ⟨m, h⟩ := maxL_some (xs := y :: ys) (by simp)
    exact ⟨_, by unfold maxL; rw [h]; rfl⟩
theorem longest_some {n : Nat} {le : Nat → Nat → Bool} (hn : n ≤ 12) (h0 : 0 < n) : ∃ m, m_longest (tab2 n le) = some m := by
  unfold m_longest
  have hl : (tab2 n le).length = n := tab_len
  rw [mapS_map (g := fun _ => (0 : Int)) (by omega) (fun _ _ => rfl)]
  simp only [Option.bind_eq_bind, Option.bind_some]
  obtain ⟨s, e, hs⟩ := forS_keep (body := m_longest_b1 (tab2 n le)) (xs := tab2 n le) (k := 0) (I := fun _ (s : List Int) => s.length = n) (s := List.map (fun _ => (0 : Int)) (tab2 n le)) (by simp [tab_len]) (by
    intro x _ k s _ _ hs
    unfold m_longest_b1
    simp only [tab_len, Option.bind_eq_bind, Option.bind_some]
    rw [rngM0 (by omega)]
    simp only [Option.bind_some]
    obtain ⟨s2, e2, hs2⟩ := forS_keep (body := m_longest_b2 (tab2 n le)) (xs := tab n fun i => (i : Int)) (k := 0) (I := fun _ (s : List Int) => s.length = n) (s := s) hs (by
      intro x hx k s _ _ hs
      obtain ⟨a, ha, rfl⟩ := tab_mem.mp hx
      unfold m_longest_b2
      simp only [tab_len, Option.bind_eq_bind, Option.bind_some]
      rw [rngM0 (by omega)]
      simp only [Option.bind_some]
      obtain ⟨s3, e3, hs3⟩ := forS_keep (body := m_longest_b3 (a : Int) (tab2 n le)) (xs := tab n fun i => (i : Int)) (k := 0) (I := fun _ (s : List Int) => s.length = n) (s := s) hs (by
        intro x hx k s _ _ hs
        obtain ⟨b, hb, rfl⟩ := tab_mem.mp hx
        unfold m_longest_b3
        have h1 := atI2 (R := le) ha hb
        rw [h1]
        unfold andO
        have g1 := atI_nat (xs := s) (i := b) (by omega)
        have g2 := atI_nat (xs := s) (i := a) (by omega)
        cases e : ((a : Int) == (b : Int)) with
        | true => exact ⟨s, by simp, hs⟩
        | false =>
          cases e2 : le a b with
          | false => exact ⟨s, by simp, hs⟩
          | true =>
            simp only [Bool.not_false, Option.bind_eq_bind, Option.bind_some, cond_true, g1, g2]
            unfold setM
            rw [ixN_nat (by omega)]
            exact ⟨_, rfl, by simp [hs]⟩)
      rw [e3]
      exact ⟨s3, rfl, hs3⟩)
    rw [e2]
    exact ⟨s2, rfl, hs2⟩)
  rw [e]
  obtain ⟨m, hm⟩ := maxL_some (xs := s) (by intro q; subst q; simp at hs; omega)
  exact ⟨m, by simp only [Option.bind_some]; rw [hm]; rfl⟩
/-- a lattice of n places -/
structure Lat (n : Nat) (le : Nat → Nat → Bool) (j m : Nat → Nat → Nat) : Prop where
  lo : 1 ≤ n
  hi : n ≤ 12
  o : Ord n le
  j : Lub n le j
  m : Lub n (fun a b => le b a) m
structure IsOrd (n : Nat) (le : Nat → Nat → Bool) (j m : Nat → Nat → Nat) (o : m_Order) : Prop where
  above : o.f_above = tab2 n le
  joins : o.f_joins = tab2 n fun a b => some ((j a b : Nat) : Int)
  meets : o.f_meets = tab2 n fun a b => some ((m a b : Nat) : Int)
  members : o.f_members = tab n fun i => (i : Int)
theorem Order_init_eq {n : Nat} {le : Nat → Nat → Bool} {j m : Nat → Nat → Nat} {ps : List (Int × Int)} (L : Lat n le j m) (g : Gens n le ps) : ∃ o, m_Order___init__ (n : Int) ps = some o ∧ IsOrd n le j m o := by
  have hn := L.hi
  have h0 := L.lo
  unfold m_Order___init__
  have e1 : ((decide ((n : Int) < 1)) || (decide ((12 : Int) < (n : Int)))) = false := by simp; omega
  rw [e1]
  simp only [Option.bind_eq_bind, bs, cond_false]
  rw [forS_un (body := m_Order___init___b1 (n : Int)) (by
    intro p hp
    obtain ⟨a, b, ha, hb, rfl⟩ := g.rg p hp
    unfold m_Order___init___b1
    simp only [Option.bind_eq_bind, bs]
    rw [forS_un]
    · rfl
    · intro x hx
      unfold m_Order___init___b2
      have : (decide (x < 0) || decide ((n : Int) ≤ x)) = false := by
        rcases List.mem_cons.mp hx with rfl | hx
        · simp; omega
        · rcases List.mem_cons.mp hx with rfl | hx
          · simp; omega
          · cases hx
      rw [this]; rfl)]
  simp only [bs]
  rw [closure_le hn L.o g]
  simp only [bs]
  rw [first_ring_eq hn L.o]
  simp only [bs, Option.isSome_none, cond_false]
  rw [bounds_eq hn L.o L.j]
  simp only [bs]
  rw [first_lack_eq hn]
  simp only [bs, Option.isSome_none, cond_false]
  rw [turned_eq hn]
  simp only [bs]
  rw [bounds_eq hn L.o.op L.m]
  simp only [bs]
  rw [first_lack_eq hn]
  simp only [bs, Option.isSome_none, cond_false]
  rw [rngM0 (by omega)]
  simp only [bs]
  obtain ⟨h, hh⟩ := longest_some (le := le) hn h0
  rw [hh]
  simp only [bs]
  refine ⟨⟨tab2 n le, _, _, _, h⟩, congrArg some (Eq.refl _), ?_⟩
  exact ⟨Eq.refl _, Eq.refl _, Eq.refl _, Eq.refl _⟩
theorem Order_init_T2 : @m_Order___init___T_b2 = @m_Order___init___b2 := rfl
theorem Order_init_T1 : @m_Order___init___T_b1 = @m_Order___init___b1 := by
  funext a b c
  unfold m_Order___init___T_b1 m_Order___init___b1
  rw [Order_init_T2]
theorem Order_init_T (n : Int) (ps : List (Int × Int)) : m_Order___init___T n ps = m_Order___init__ n ps := by
  unfold m_Order___init___T m_Order___init__
  simp only [Order_init_T1, m_closure_T_eq, Option.bind_eq_bind, Option.bind_some]
theorem Order_init_C2 : @m_Order___init___C_b2 = @m_Order___init___b2 := rfl
theorem Order_init_C1 : @m_Order___init___C_b1 = @m_Order___init___b1 := by
  funext a b c
  unfold m_Order___init___C_b1 m_Order___init___b1
  rw [Order_init_C2]
theorem Order_init_C (n : Int) (ps : List (Int × Int)) : m_Order___init___C n ps = m_Order___init__ n ps := by
  unfold m_Order___init___C m_Order___init__
  simp only [Order_init_C1, m_closure_C_eq, Option.bind_eq_bind, Option.bind_some]
theorem require_eq {n : Nat} {le : Nat → Nat → Bool} {j m : Nat → Nat → Nat} {o : m_Order} (h : IsOrd n le j m o) {a b : Nat} (ha : a < n) (hb : b < n) : m_Order__require o (a : Int) (b : Int) = some () := by
  unfold m_Order__require
  simp only [Option.bind_eq_bind, Option.bind_some]
  rw [forS_un]
  · rfl
  · intro x hx
    unfold m_Order__require_b1
    rw [h.members, tab_len]
    have : (decide (x < 0) || decide ((n : Int) ≤ x)) = false := by
      rcases List.mem_cons.mp hx with rfl | hx
      · simp; omega
      · rcases List.mem_cons.mp hx with rfl | hx
        · simp; omega
        · cases hx
    rw [this]; rfl
theorem below_eq {n : Nat} {le : Nat → Nat → Bool} {j m : Nat → Nat → Nat} {o : m_Order} (h : IsOrd n le j m o) {a b : Nat} (ha : a < n) (hb : b < n) : m_Order_below o (a : Int) (b : Int) = some (le a b) := by
  unfold m_Order_below
  rw [require_eq h ha hb, h.above]
  have h1 := atI2 (R := le) ha hb
  rw [h1]
  rfl
end My

namespace My
open PySem L2 Sim PyProof.Rows
/-! ### the pot -/
theorem draw_eq (pot : List Int) {n : Nat} (h : 0 < n) : ∃ (v : Nat) (pot' : List Int), m__law_draw pot (n : Int) = some ((v : Int), pot') ∧ v < n := by
  unfold m__law_draw
  cases e : ((pot.length : Int) == 0) with
  | true => exact ⟨0, pot, rfl, h⟩
  | false =>
    have h0 : 0 < pot.length := by rw [beq_eq_false_iff_ne] at e; omega
    simp only [Option.bind_eq_bind, bs, cond_false]
    unfold popM
    rw [List.getElem?_eq_getElem (show pot.length - 1 < pot.length by omega)]
    simp only [Option.bind_eq_bind, bs]
    unfold modM
    rw [if_pos (by omega)]
    have h1 := Int.emod_nonneg (pot[pot.length - 1]) (show (n : Int) ≠ 0 by omega)
    have h2 := Int.emod_lt_of_pos (pot[pot.length - 1]) (show (0 : Int) < n by omega)
    refine ⟨(pot[pot.length - 1] % (n : Int)).toNat, pot.dropLast, ?_, by omega⟩
    simp only [bs]
    rw [show (((pot[pot.length - 1] % (n : Int)).toNat : Nat) : Int) = pot[pot.length - 1] % (n : Int) by omega]
theorem draw_lit (pot : List Int) (n : Nat) (h : 0 < n) {z : Int} (hz : z = (n : Int)) : ∃ (v : Nat) (pot' : List Int), m__law_draw pot z = some ((v : Int), pot') ∧ v < n := by
  subst hz; exact draw_eq pot h
theorem pot_b2 {k : Nat} {x : Int} {s : List Int × Int} (h1 : s.1.length ≤ k) (hk : k < 100000) : ∃ s', m__law_pot_b2 x s = some s' ∧ s'.1.length ≤ k + 1 := by
  obtain ⟨p, r⟩ := s
  unfold m__law_pot_b2
  simp only [Option.bind_eq_bind, bs]
  have hd : fdivM r 100 = some (r / 100) := by unfold fdivM; rw [if_pos (by decide)]
  have hm : modM r 100 = some (r % 100) := by unfold modM; rw [if_pos (by decide)]
  have ha : appM p (r % 100) = some (p ++ [r % 100]) := by unfold appM; rw [sz_t (show p.length < 100000 from Nat.lt_of_le_of_lt h1 hk)]; rfl
  rw [hd, hm]
  have h1 : p.length ≤ k := h1
  cases (decide ((0 : Int) < r) || x == 0) with
  | true =>
    simp only [cond_true, bs, ha]
    exact ⟨_, rfl, by simp; exact h1⟩
  | false =>
    simp only [cond_false, bs]
    exact ⟨_, rfl, by simp; omega⟩
theorem pot_b1 {ns : List Int} {i k : Nat} {s : List Int} (hi : i < ns.length) (hi' : i < 63) (h1 : s.length ≤ k) (hk : k + 60 < 100000) : ∃ s', m__law_pot_b1 ns (i : Int) s = some s' ∧ s'.length ≤ k + 60 := by
  unfold m__law_pot_b1
  rw [atI_nat hi]
  simp only [Option.bind_eq_bind, bs]
  generalize hr : (if ns[i] < 0 then -ns[i] else ns[i]) = r
  have hr0 : 0 ≤ r := by rw [← hr]; split <;> omega
  have hp : powM 10 18 = some 1000000000000000000 := by decide
  rw [hp]
  simp only [bs]
  have loop : ∀ (m : Nat) (r : Int), m ≤ 60 → ∃ s', ((rngM 0 (m : Int)).bind fun xs1671 => (forS m__law_pot_b2 xs1671 (s, r)).bind fun s1676 => some s1676.1) = some s' ∧ s'.length ≤ k + 60 := by
    intro m r hm
    rw [rngM0 (by omega)]
    simp only [bs]
    obtain ⟨t, e, ht⟩ := forS_keep (body := m__law_pot_b2) (xs := tab m fun i => (i : Int)) (k := k) (I := fun j (s : List Int × Int) => s.1.length ≤ j) (s := (s, r)) h1 (by
      intro x _ j s hj hj' hs
      rw [tab_len] at hj'
      exact pot_b2 hs (by omega))
    rw [e]
    rw [tab_len] at ht
    exact ⟨_, rfl, by omega⟩
  cases e : decide (r < 1000000000000000000) with
  | false =>
    simp only [cond_false, bs]
    obtain ⟨s', e2, h2⟩ := loop 60 r (by omega)
    exact ⟨s', e2, h2⟩
  | true =>
    have hr1 : r < 1000000000000000000 := of_decide_eq_true e
    simp only [cond_true, bs]
    have k1 : mulM 2 r = some (2 * r) := by unfold mulM; rw [if_pos (by omega)]
    have k2 : mulM 2 (i : Int) = some (2 * (i : Int)) := by unfold mulM; rw [if_pos (by omega)]
    have k3 : ∀ z, mulM z (48271 + 2 * (i : Int)) = some (z * (48271 + 2 * (i : Int))) := fun z => by unfold mulM; rw [if_pos (by omega)]
    rw [k1, k2]
    simp only [bs]
    rw [k3]
    simp only [bs]
    have k4 : ∀ z, modM z 2147483647 = some (z % 2147483647) := fun z => by unfold modM; rw [if_pos (by decide)]
    have k5 : ∀ z, modM z 2147483629 = some (z % 2147483629) := fun z => by unfold modM; rw [if_pos (by decide)]
    rw [k4]
    simp only [bs]
    generalize hq : ((2 * r + if decide (ns[i] < 0) = true then (1 : Int) else 0) * (48271 + 2 * (i : Int))) % 2147483647 = q
    have q0 : 0 ≤ q := by rw [← hq]; exact Int.emod_nonneg _ (by decide)
    have q1 : q < 2147483647 := by rw [← hq]; exact Int.emod_lt_of_pos _ (by decide)
    have k6 : mulM q q = some (q * q) := by unfold mulM; rw [if_pos (by omega)]
    have k7 : mulM q (i : Int) = some (q * (i : Int)) := by unfold mulM; rw [if_pos (by omega)]
    rw [k6, k7]
    simp only [bs]
    rw [k5]
    simp only [bs]
    obtain ⟨s', e2, h2⟩ := loop 4 ((q * q + q * (i : Int)) % 2147483629) (by omega)
    exact ⟨s', e2, h2⟩
theorem pot_eq (ns : List Int) : ∃ p, m__law_pot ns = some p := by
  unfold m__law_pot
  simp only [Option.bind_eq_bind, bs]
  have hn : ∃ n : Nat, (if (63 : Int) < (ns.length : Int) then (63 : Int) else (ns.length : Int)) = (n : Int) ∧ n ≤ 63 ∧ n ≤ ns.length := by
    split
    · exact ⟨63, rfl, by omega, by omega⟩
    · exact ⟨ns.length, rfl, by omega, by omega⟩
  obtain ⟨n, e, h1, h2⟩ := hn
  rw [e, rngM0 (by omega)]
  simp only [bs]
  obtain ⟨t, e, ht⟩ := forS_keep (body := m__law_pot_b1 ns) (xs := tab n fun i => (i : Int)) (k := 0) (I := fun j (s : List Int) => s.length ≤ j * 60) (s := []) (by simp) (by
    intro x hx j s hj hj' hs
    rw [tab_len] at hj'
    obtain ⟨i, hi, rfl⟩ := tab_mem.mp hx
    obtain ⟨s', e1, h1⟩ := pot_b1 (ns := ns) (i := i) (k := j * 60) (s := s) (by omega) (by omega) hs (by omega)
    exact ⟨s', e1, by omega⟩)
  rw [e]
  exact ⟨_, rfl⟩

/-! ### the masks -/
def nts (ms : List Nat) : List Int := ms.map (fun k : Nat => (k : Int))
structure Masks (ms : List Nat) : Prop where
  nd : ms.Nodup
  lt : ∀ x ∈ ms, x < 32
  top : 31 ∈ ms
  cl : ∀ x ∈ ms, ∀ y ∈ ms, x &&& y ∈ ms
theorem bitAnd_nat (x y : Nat) : Builtin.bitAnd (x : Int) (y : Int) = ((x &&& y : Nat) : Int) := by
  rw [bitAnd_pp (by omega) (by omega)]; simp
theorem mem_nts {x : Nat} {ms : List Nat} : (x : Int) ∈ nts ms ↔ x ∈ ms := by
  unfold nts
  rw [List.mem_map]
  constructor
  · rintro ⟨k, hk, e⟩
    have : k = x := by omega
    subst this; exact hk
  · intro h; exact ⟨x, h, rfl⟩
theorem nts_len {ms : List Nat} : (nts ms).length = ms.length := by simp [nts]
theorem len_sub {α : Type} [BEq α] [LawfulBEq α] : ∀ {l l2 : List α}, l.Nodup → (∀ x ∈ l, x ∈ l2) → l.length ≤ l2.length
  | [], _, _, _ => Nat.zero_le _
  | x :: xs, l2, h, hs => by
    have hx := hs x (List.mem_cons_self ..)
    obtain ⟨h1, h2⟩ := List.nodup_cons.mp h
    have := len_sub (l := xs) (l2 := l2.erase x) h2 fun y hy => by
      have hne : y ≠ x := fun e => h1 (e ▸ hy)
      exact (List.mem_erase_of_ne hne).mpr (hs y (List.mem_cons_of_mem _ hy))
    rw [List.length_erase_of_mem hx] at this
    have := List.length_pos_of_mem hx
    simp only [List.length_cons]
    omega
theorem nodup_len {ms : List Nat} (h : ms.Nodup) (hl : ∀ x ∈ ms, x < 32) : ms.length ≤ 32 := by
  have := len_sub h (l2 := List.range 32) (fun x hx => List.mem_range.mpr (hl x hx))
  simpa using this
/-- all & v added -/
def addAll (v : Nat) : List Nat → List Nat → List Nat
  | [], s => s
  | x :: xs, s => addAll v xs (if x &&& v ∈ s then s else s ++ [x &&& v])
theorem addAll_mem {v : Nat} : ∀ {xs s : List Nat} {z : Nat}, z ∈ addAll v xs s ↔ z ∈ s ∨ ∃ x ∈ xs, x &&& v = z
  | [], s, z => by simp [addAll]
  | x :: xs, s, z => by
    unfold addAll
    rw [addAll_mem]
    split
    · rename_i h
      constructor
      · rintro (h1 | ⟨y, hy, rfl⟩)
        · exact Or.inl h1
        · exact Or.inr ⟨y, List.mem_cons_of_mem _ hy, rfl⟩
      · rintro (h1 | ⟨y, hy, rfl⟩)
        · exact Or.inl h1
        · rcases List.mem_cons.mp hy with rfl | hy
          · exact Or.inl h
          · exact Or.inr ⟨y, hy, rfl⟩
    · constructor
      · rintro (h1 | ⟨y, hy, rfl⟩)
        · rcases List.mem_append.mp h1 with h1 | h1
          · exact Or.inl h1
          · rw [List.mem_singleton] at h1
            exact Or.inr ⟨x, List.mem_cons_self .., h1.symm⟩
        · exact Or.inr ⟨y, List.mem_cons_of_mem _ hy, rfl⟩
      · rintro (h1 | ⟨y, hy, rfl⟩)
        · exact Or.inl (List.mem_append_left _ h1)
        · rcases List.mem_cons.mp hy with rfl | hy
          · exact Or.inl (List.mem_append_right _ (List.mem_singleton.mpr rfl))
          · exact Or.inr ⟨y, hy, rfl⟩
theorem addAll_nd {v : Nat} : ∀ {xs s : List Nat}, s.Nodup → (addAll v xs s).Nodup
  | [], s, h => h
  | x :: xs, s, h => by
    unfold addAll
    split
    · exact addAll_nd h
    · rename_i hx
      exact addAll_nd (by
        rw [List.nodup_append]
        refine ⟨h, by simp, fun a ha b hb e => ?_⟩
        rw [List.mem_singleton] at hb
        subst hb; subst e
        exact hx ha)
theorem addAll_lt {v : Nat} {xs s : List Nat} (h : ∀ x ∈ s, x < 32) (hv : v < 32) : ∀ x ∈ addAll v xs s, x < 32 := by
  intro z hz
  rcases addAll_mem.mp hz with h1 | ⟨x, _, rfl⟩
  · exact h z h1
  · exact Nat.lt_of_le_of_lt Nat.and_le_right hv
theorem addAll_masks {v : Nat} {ms : List Nat} (h : Masks ms) (hv : v < 32) : Masks (addAll v ms ms) := by
  refine ⟨addAll_nd h.nd, addAll_lt h.lt hv, addAll_mem.mpr (Or.inl h.top), fun x hx y hy => ?_⟩
  refine addAll_mem.mpr ?_
  rcases addAll_mem.mp hx with h1 | ⟨a, ha, rfl⟩ <;> rcases addAll_mem.mp hy with h2 | ⟨b, hb, rfl⟩
  · exact Or.inl (h.cl _ h1 _ h2)
  · exact Or.inr ⟨x &&& b, h.cl _ h1 _ hb, Nat.and_assoc ..⟩
  · exact Or.inr ⟨a &&& y, h.cl _ ha _ h2, by rw [Nat.and_assoc, Nat.and_assoc, Nat.and_comm y v]⟩
  · refine Or.inr ⟨a &&& b, h.cl _ ha _ hb, ?_⟩
    rw [Nat.and_assoc, Nat.and_assoc, ← Nat.and_assoc v b v, Nat.and_comm v b, Nat.and_assoc b v v, Nat.and_self]
theorem masks_b2 {v : Nat} {pp : List Int} (hv : v < 32) : ∀ {xs s : List Nat}, s.Nodup → (∀ x ∈ s, x < 32) → forS (m__law_masks_b2 ((v : Int), pp)) (nts xs) (nts s) = some (nts (addAll v xs s))
  | [], s, _, _ => rfl
  | x :: xs, s, h, hl => by
    have ih : ∀ {s : List Nat}, s.Nodup → (∀ x ∈ s, x < 32) → forS (m__law_masks_b2 ((v : Int), pp)) (nts xs) (nts s) = some (nts (addAll v xs s)) := fun h1 h2 => masks_b2 hv h1 h2
    show (m__law_masks_b2 ((v : Int), pp) (x : Int) (nts s) >>= forS (m__law_masks_b2 ((v : Int), pp)) (nts xs)) = _
    have h1 := addAll_nd (v := v) (xs := [x]) h
    have h2 := addAll_lt (v := v) (xs := [x]) hl hv
    unfold addAll at h1 h2
    unfold addAll at h1 h2
    unfold addAll
    have e : m__law_masks_b2 ((v : Int), pp) (x : Int) (nts s) = some (nts (if x &&& v ∈ s then s else s ++ [x &&& v])) := by
      unfold m__law_masks_b2
      simp only [Option.bind_eq_bind, bs, bitAnd_nat]
      have hm : ((nts s).any fun z => z == ((x &&& v : Nat) : Int)) = decide (x &&& v ∈ s) := by
        cases q : ((nts s).any fun z => z == ((x &&& v : Nat) : Int)) with
        | true =>
          rw [List.any_eq_true] at q
          obtain ⟨z, hz, e⟩ := q
          rw [beq_iff_eq] at e; subst e
          simp [mem_nts.mp hz]
        | false =>
          have : x &&& v ∉ s := fun hx => by
            rw [List.any_eq_false] at q
            exact q _ (mem_nts.mpr hx) (by simp)
          simp [this]
      rw [hm]
      by_cases q : x &&& v ∈ s
      · simp [q]
      · have := nodup_len h hl
        simp only [q, decide_false, Bool.not_false, cond_true, if_false]
        unfold appM
        rw [sz_t (by rw [nts_len]; omega)]
        simp [nts]
    rw [e]
    exact ih h1 h2
structure MSt (most : Nat) (s : List Int × List Int) : Prop where
  ex : ∃ ms, Masks ms ∧ s.1 = nts ms ∧ ms.length ≤ most
theorem masks_b1 {most : Nat} {x : Int} {s : List Int × List Int} (h : MSt most s) : ∃ s', m__law_masks_b1 (most : Int) x s = some s' ∧ MSt most s' := by
  obtain ⟨m, p⟩ := s
  obtain ⟨ms, h1, rfl, h2⟩ := h.ex
  unfold m__law_masks_b1
  simp only [Option.bind_eq_bind, bs]
  obtain ⟨v, pot', e, hv⟩ := draw_lit p 32 (by decide) (z := 32) rfl
  rw [e]
  simp only [bs]
  rw [masks_b2 hv h1.nd h1.lt]
  simp only [bs, nts_len]
  by_cases q : (addAll v ms ms).length ≤ most
  · have : decide (((addAll v ms ms).length : Int) ≤ (most : Int)) = true := by simp; exact q
    rw [this]
    exact ⟨_, rfl, ⟨_, addAll_masks h1 hv, rfl, q⟩⟩
  · have : decide (((addAll v ms ms).length : Int) ≤ (most : Int)) = false := by simp; omega
    rw [this]
    exact ⟨_, rfl, ⟨_, h1, rfl, h2⟩⟩
theorem ixN_popAt {n k : Nat} (h : k < n) : seqIndex? (k : Int) n = some k := by
  unfold seqIndex?
  have : ¬ ((k : Int) < 0) := by omega
  simp only [this, if_false]
  have h2 : (decide (0 ≤ (k : Int)) && decide ((k : Int) < (n : Int))) = true := by simp; exact h
  rw [if_pos h2]
  rfl
theorem perm_erase {α : Type} : ∀ {xs : List α} {k : Nat} (h : k < xs.length), xs.Perm (xs[k] :: xs.eraseIdx k)
  | x :: xs, 0, _ => .refl _
  | x :: xs, k + 1, h => by
    have h : k < xs.length := by simpa using h
    exact ((perm_erase h).cons x).trans (.swap ..)
/-- a list drawn out in another order -/
theorem popAt_eq {α : Type} {xs : List α} {k : Nat} (h : k < xs.length) (h2 : xs.length < 100000) : popAtM xs (k : Int) = some (xs[k], xs.eraseIdx k) := by
  unfold popAtM
  rw [if_pos (by omega), ixN_popAt h]
  simp only [Option.bind_eq_bind, bs]
  rw [List.getElem?_eq_getElem h]
  rfl
theorem masks_b3 {xs : List Int} {k : Nat} {x : Int} {s : List Int × (List Int × List Int)} (hk : k < xs.length) (hl : xs.length < 100) (h : (s.1 ++ s.2.2).Perm xs ∧ s.1.length = k) :
    ∃ s', m__law_masks_b3 x s = some s' ∧ (s'.1 ++ s'.2.2).Perm xs ∧ s'.1.length = k + 1 := by
  obtain ⟨a, p, r⟩ := s
  obtain ⟨h1, h2⟩ := h
  have h1 : (a ++ r).Perm xs := h1
  have h2 : a.length = k := h2
  have hr := h1.length_eq
  rw [List.length_append] at hr
  unfold m__law_masks_b3
  simp only [Option.bind_eq_bind, bs]
  obtain ⟨v, pot', e, hv⟩ := draw_eq p (n := r.length) (by omega)
  rw [e]
  simp only [bs]
  rw [popAt_eq hv (by omega)]
  simp only [bs]
  unfold appM
  rw [sz_t (by omega)]
  refine ⟨_, rfl, ?_, by simp [h2]⟩
  show ((a ++ [r[v]]) ++ r.eraseIdx v).Perm xs
  refine (List.Perm.trans ?_ h1)
  rw [List.append_assoc]
  exact List.Perm.append_left a (perm_erase hv).symm
theorem Masks.perm {ms ms' : List Nat} (h : Masks ms) (p : ms'.Perm ms) : Masks ms' :=
  ⟨p.nodup_iff.mpr h.nd, fun x hx => h.lt x (p.mem_iff.mp hx), p.mem_iff.mpr h.top, fun x hx y hy => p.mem_iff.mpr (h.cl x (p.mem_iff.mp hx) y (p.mem_iff.mp hy))⟩
theorem perm_nts {xs : List Int} {ms : List Nat} (p : xs.Perm (nts ms)) : ∃ ms', xs = nts ms' ∧ ms'.Perm ms := by
  refine ⟨xs.map Int.toNat, ?_, ?_⟩
  · unfold nts
    rw [List.map_map]
    have : ∀ x ∈ xs, (((fun k : Nat => (k : Int)) ∘ Int.toNat) x) = x := fun x hx => by
      obtain ⟨k, _, rfl⟩ := List.mem_map.mp (p.mem_iff.mp hx)
      simp
    rw [List.map_congr_left this]
    simp
  · have := p.map Int.toNat
    unfold nts at this
    rw [List.map_map] at this
    have e : (Int.toNat ∘ fun k : Nat => (k : Int)) = id := by funext k; simp
    rw [e, List.map_id] at this
    exact this
theorem masks_eq (pot : List Int) {most : Nat} (hm : 1 ≤ most) : ∃ ms pot', m__law_masks pot (most : Int) = some (nts ms, pot') ∧ Masks ms ∧ ms.length ≤ most := by
  unfold m__law_masks
  simp only [Option.bind_eq_bind, bs]
  obtain ⟨v, p1, e, hv⟩ := draw_lit pot 6 (by decide) (z := 6) rfl
  rw [e]
  simp only [bs]
  have e2 : modM ((v : Int) + 1) 6 = some (((v + 1) % 6 : Nat) : Int) := by
    unfold modM
    rw [if_pos (by decide)]
    simp
  rw [e2]
  simp only [bs]
  rw [rngM0 (by omega)]
  simp only [bs]
  obtain ⟨s, e3, h3⟩ := forS_keep (body := m__law_masks_b1 (most : Int)) (xs := tab ((v + 1) % 6) fun i => (i : Int)) (k := 0) (I := fun _ s => MSt most s) (s := ([31], p1)) ⟨[31], ⟨by simp, by simp, by simp, by simp⟩, rfl, hm⟩ (fun x _ j s _ _ hs => masks_b1 hs)
  rw [e3]
  simp only [bs]
  obtain ⟨m, p2⟩ := s
  obtain ⟨ms, h4, rfl, h5⟩ := h3.ex
  have h6 := nodup_len h4.nd h4.lt
  rw [nts_len, if_pos (by omega)]
  simp only [bs]
  have hp := srtI_perm (nts ms)
  have hl := hp.length_eq
  rw [nts_len] at hl
  rw [hl, rngM0 (by omega)]
  simp only [bs]
  obtain ⟨s, e7, h7⟩ := forS_keep (body := m__law_masks_b3) (xs := tab ms.length fun i => (i : Int)) (k := 0) (I := fun j (s : List Int × (List Int × List Int)) => (s.1 ++ s.2.2).Perm (srtI (nts ms)) ∧ s.1.length = j) (s := ([], (p2, srtI (nts ms)))) ⟨by simp, rfl⟩ (by
    intro x _ j s _ hj hs
    rw [tab_len] at hj
    exact masks_b3 (by omega) (by omega) hs)
  rw [e7]
  simp only [bs]
  obtain ⟨a, p3, r⟩ := s
  obtain ⟨h8, h9⟩ := h7
  have h8 : (a ++ r).Perm (srtI (nts ms)) := h8
  have h9 : a.length = 0 + (tab ms.length fun i => (i : Int)).length := h9
  rw [tab_len] at h9
  have h10 := h8.length_eq
  rw [List.length_append] at h10
  have : r = [] := List.length_eq_zero_iff.mp (by omega)
  subst this
  rw [List.append_nil] at h8
  obtain ⟨ms', rfl, h11⟩ := perm_nts (h8.trans hp)
  exact ⟨ms', p3, rfl, h4.perm h11, by rw [h11.length_eq]; exact h5⟩

/-! ### the order of the masks -/
def mle (ms : List Nat) (a b : Nat) : Bool := (ms.getD a 0 &&& ms.getD b 0) == ms.getD a 0
def mmeet (ms : List Nat) (a b : Nat) : Nat := ms.idxOf (ms.getD a 0 &&& ms.getD b 0)
def andAll : List Nat → Nat
  | [] => 31
  | x :: xs => x &&& andAll xs
def mjoin (ms : List Nat) (a b : Nat) : Nat := ms.idxOf (andAll (ms.filter fun z => (ms.getD a 0 &&& z == ms.getD a 0) && (ms.getD b 0 &&& z == ms.getD b 0)))
theorem getD_mem {ms : List Nat} {a : Nat} (h : a < ms.length) : ms.getD a 0 ∈ ms := by
  rw [List.getD_eq_getElem?_getD, List.getElem?_eq_getElem h]; exact List.getElem_mem h
theorem getD_inj {ms : List Nat} (hd : ms.Nodup) {a b : Nat} (ha : a < ms.length) (hb : b < ms.length) (h : ms.getD a 0 = ms.getD b 0) : a = b := by
  rw [List.getD_eq_getElem?_getD, List.getD_eq_getElem?_getD, List.getElem?_eq_getElem ha, List.getElem?_eq_getElem hb] at h
  exact (List.getElem_inj hd).mp h
theorem getD_idx {ms : List Nat} {x : Nat} (h : x ∈ ms) : ms.idxOf x < ms.length ∧ ms.getD (ms.idxOf x) 0 = x := by
  have := List.idxOf_lt_length_of_mem h
  refine ⟨this, ?_⟩
  rw [List.getD_eq_getElem?_getD, List.getElem?_eq_getElem this]
  exact List.getElem_idxOf this
theorem andAll_mem {ms : List Nat} (h : Masks ms) : ∀ {xs : List Nat}, (∀ x ∈ xs, x ∈ ms) → andAll xs ∈ ms
  | [], _ => h.top
  | x :: xs, hx => h.cl _ (hx x (List.mem_cons_self ..)) _ (andAll_mem h fun y hy => hx y (List.mem_cons_of_mem _ hy))
theorem andAll_le {xs : List Nat} : ∀ {x : Nat}, x ∈ xs → andAll xs &&& x = andAll xs := by
  induction xs with
  | nil => intro x h; cases h
  | cons y ys ih =>
    intro x h
    unfold andAll
    rcases List.mem_cons.mp h with rfl | h
    · rw [Nat.and_comm x (andAll ys), Nat.and_assoc, Nat.and_self]
    · rw [Nat.and_assoc, ih h]
theorem le_andAll {a : Nat} (ha : a < 32) : ∀ {xs : List Nat}, (∀ x ∈ xs, a &&& x = a) → a &&& andAll xs = a
  | [], _ => by
    have : a % 2 ^ 5 = a := Nat.mod_eq_of_lt ha
    rw [← Nat.and_two_pow_sub_one_eq_mod] at this
    exact this
  | x :: xs, h => by
    show a &&& (x &&& andAll xs) = a
    rw [← Nat.and_assoc, h x (List.mem_cons_self ..), le_andAll ha fun y hy => h y (List.mem_cons_of_mem _ hy)]
theorem mOrd {ms : List Nat} (h : Masks ms) : Ord ms.length (mle ms) where
  rf a _ := by unfold mle; rw [Nat.and_self]; simp
  an a b ha hb h1 h2 := by
    unfold mle at h1 h2
    rw [beq_iff_eq] at h1 h2
    rw [Nat.and_comm] at h2
    exact getD_inj h.nd ha hb (h1.symm.trans h2)
  tr a b c ha hb hc h1 h2 := by
    unfold mle at h1 h2 ⊢
    rw [beq_iff_eq] at h1 h2 ⊢
    rw [← h1, Nat.and_assoc, h2]
theorem mMeet {ms : List Nat} (h : Masks ms) : Lub ms.length (fun a b => mle ms b a) (mmeet ms) where
  lt a b ha hb := (getD_idx (h.cl _ (getD_mem ha) _ (getD_mem hb))).1
  l a b ha hb := by
    unfold mle mmeet
    rw [(getD_idx (h.cl _ (getD_mem ha) _ (getD_mem hb))).2, beq_iff_eq, Nat.and_comm (ms.getD a 0), Nat.and_assoc, Nat.and_self]
  r a b ha hb := by
    unfold mle mmeet
    rw [(getD_idx (h.cl _ (getD_mem ha) _ (getD_mem hb))).2, beq_iff_eq, Nat.and_assoc, Nat.and_self]
  le a b c ha hb hc h1 h2 := by
    unfold mle mmeet at *
    rw [(getD_idx (h.cl _ (getD_mem ha) _ (getD_mem hb))).2]
    rw [beq_iff_eq] at *
    rw [← Nat.and_assoc, h1, h2]
theorem mJoin {ms : List Nat} (h : Masks ms) : Lub ms.length (mle ms) (mjoin ms) := by
  have hm : ∀ a b, andAll (ms.filter fun z => (ms.getD a 0 &&& z == ms.getD a 0) && (ms.getD b 0 &&& z == ms.getD b 0)) ∈ ms := fun a b => andAll_mem h fun x hx => (List.mem_filter.mp hx).1
  have hu : ∀ a b x, x ∈ (ms.filter fun z => (ms.getD a 0 &&& z == ms.getD a 0) && (ms.getD b 0 &&& z == ms.getD b 0)) ↔ x ∈ ms ∧ ms.getD a 0 &&& x = ms.getD a 0 ∧ ms.getD b 0 &&& x = ms.getD b 0 := fun a b x => by
    rw [List.mem_filter]; simp
  refine ⟨fun a b ha hb => (getD_idx (hm a b)).1, fun a b ha hb => ?_, fun a b ha hb => ?_, fun a b c ha hb hc h1 h2 => ?_⟩
  · unfold mle mjoin
    rw [(getD_idx (hm a b)).2, beq_iff_eq]
    exact le_andAll (h.lt _ (getD_mem ha)) fun x hx => ((hu a b x).mp hx).2.1
  · unfold mle mjoin
    rw [(getD_idx (hm a b)).2, beq_iff_eq]
    exact le_andAll (h.lt _ (getD_mem hb)) fun x hx => ((hu a b x).mp hx).2.2
  · unfold mle mjoin at *
    rw [(getD_idx (hm a b)).2]
    rw [beq_iff_eq] at *
    exact andAll_le ((hu a b _).mpr ⟨getD_mem hc, h1, h2⟩)
theorem Masks.ne {ms : List Nat} (h : Masks ms) : 1 ≤ ms.length := List.length_pos_of_mem h.top
theorem mLat {ms : List Nat} (h : Masks ms) (hl : ms.length ≤ 12) : Lat ms.length (mle ms) (mjoin ms) (mmeet ms) := ⟨h.ne, hl, mOrd h, mJoin h, mMeet h⟩
theorem atI_nts {ms : List Nat} {a : Nat} (h : a < ms.length) : atI (nts ms) (a : Int) = some ((ms.getD a 0 : Nat) : Int) := by
  rw [atI_nat (by rw [nts_len]; exact h)]
  simp [nts, List.getD_eq_getElem?_getD, List.getElem?_eq_getElem h]
theorem under_eq {ms : List Nat} {a b : Nat} (ha : a < ms.length) (hb : b < ms.length) : m__law_under (nts ms) (a : Int) (b : Int) = some (mle ms a b) := by
  unfold m__law_under
  rw [atI_nts ha, atI_nts hb]
  simp only [Option.bind_eq_bind, bs, bitAnd_nat]
  unfold mle
  congr 1
  cases e : (ms.getD a 0 &&& ms.getD b 0 == ms.getD a 0) with
  | true => rw [beq_iff_eq] at e; rw [e]; simp
  | false => rw [beq_eq_false_iff_ne] at e ⊢; omega
end My

namespace My
open PySem L2 Sim PyProof.Rows
/-! ### the covers, the pairs given -/
theorem forS_flat {α β γ : Type} {body : β → List γ → Option (List γ)} {a : α → β} {f : α → List γ} {B : Nat} : ∀ {xs : List α} {s : List γ}, (∀ x ∈ xs, ∀ s, s.length + (f x).length ≤ B → body (a x) s = some (s ++ f x)) → s.length + (xs.flatMap f).length ≤ B →
    forS body (xs.map a) s = some (s ++ xs.flatMap f)
  | [], s, _, _ => by simp [forS]
  | x :: xs, s, h, hB => by
    show (body (a x) s >>= forS body (xs.map a)) = _
    rw [List.flatMap_cons, List.length_append] at hB
    rw [h x (List.mem_cons_self ..) s (by omega)]
    show forS body (xs.map a) (s ++ f x) = _
    rw [forS_flat (fun y hy => h y (List.mem_cons_of_mem _ hy)) (by rw [List.length_append]; omega), List.flatMap_cons, List.append_assoc]
theorem flat_len {α γ : Type} {f : α → List γ} {k : Nat} : ∀ {xs : List α}, (∀ x ∈ xs, (f x).length ≤ k) → (xs.flatMap f).length ≤ xs.length * k
  | [], _ => by simp
  | x :: xs, h => by
    rw [List.flatMap_cons, List.length_append, List.length_cons, Nat.succ_mul]
    have := flat_len (fun y hy => h y (List.mem_cons_of_mem _ hy))
    have := h x (List.mem_cons_self ..)
    omega
def btw (ms : List Nat) (a b : Nat) : List Nat := (List.range ms.length).filter fun k => mle ms a k && mle ms k b
def isCov (ms : List Nat) (a b : Nat) : Bool := !(a == b) && (btw ms a b).length == 2
def covs (ms : List Nat) : List (Int × Int) := (List.range ms.length).flatMap fun a => (List.range ms.length).flatMap fun b => if isCov ms a b = true then [((a : Int), (b : Int))] else []
theorem covs_mem {ms : List Nat} {p : Int × Int} : p ∈ covs ms ↔ ∃ a b, a < ms.length ∧ b < ms.length ∧ isCov ms a b = true ∧ p = ((a : Int), (b : Int)) := by
  unfold covs
  rw [List.mem_flatMap]
  constructor
  · rintro ⟨a, ha, h⟩
    obtain ⟨b, hb, h⟩ := List.mem_flatMap.mp h
    split at h
    · rename_i hc
      exact ⟨a, b, List.mem_range.mp ha, List.mem_range.mp hb, hc, List.mem_singleton.mp h⟩
    · cases h
  · rintro ⟨a, b, ha, hb, hc, rfl⟩
    refine ⟨a, List.mem_range.mpr ha, List.mem_flatMap.mpr ⟨b, List.mem_range.mpr hb, ?_⟩⟩
    rw [if_pos hc]
    exact List.mem_singleton.mpr rfl
theorem covs_row_len (ms : List Nat) (a : Nat) : ((List.range ms.length).flatMap fun b => if isCov ms a b = true then [((a : Int), (b : Int))] else []).length ≤ ms.length := by
  have := flat_len (f := fun b => if isCov ms a b = true then [((a : Int), (b : Int))] else []) (k := 1) (xs := List.range ms.length) (fun x _ => by split <;> simp)
  simpa using this
theorem covs_len (ms : List Nat) : (covs ms).length ≤ ms.length * ms.length := by
  have := flat_len (xs := List.range ms.length) (fun a _ => covs_row_len ms a)
  rw [List.length_range] at this
  exact this
theorem covers_eq {ms : List Nat} (hl : ms.length ≤ 12) : m__law_covers (nts ms) = some (covs ms) := by
  unfold m__law_covers
  simp only [Option.bind_eq_bind, bs, nts_len]
  rw [rngM0 (by omega)]
  simp only [bs]
  have h2 : ms.length * ms.length ≤ 144 := Nat.mul_le_mul hl hl
  have h3 := covs_len ms
  have := forS_flat (body := m__law_covers_b1 (nts ms)) (a := fun i : Nat => (i : Int)) (f := fun a => (List.range ms.length).flatMap fun b => if isCov ms a b = true then [((a : Int), (b : Int))] else []) (B := 144) (xs := List.range ms.length) (s := []) (by
    intro a ha s hs
    have ha := List.mem_range.mp ha
    unfold m__law_covers_b1
    simp only [Option.bind_eq_bind, bs, nts_len]
    rw [rngM0 (by omega)]
    simp only [bs]
    have := forS_flat (body := m__law_covers_b2 (nts ms) (a : Int)) (a := fun i : Nat => (i : Int)) (f := fun b => if isCov ms a b = true then [((a : Int), (b : Int))] else []) (B := 144) (xs := List.range ms.length) (s := s) (by
      intro b hb s hs
      have hb := List.mem_range.mp hb
      unfold m__law_covers_b2
      simp only [Option.bind_eq_bind, bs, nts_len]
      rw [rngM0 (by omega)]
      simp only [bs]
      rw [lcS_tab (p := fun k => mle ms a k && mle ms k b) (g := fun k => (k : Int)) (by omega) ?h1 (fun _ _ => rfl)]
      case h1 =>
        intro k hk
        rw [under_eq ha hk, under_eq hk hb]
        unfold andO
        cases mle ms a k <;> rfl
      simp only [bs, List.length_map]
      have : ((!((a : Int) == (b : Int))) && ((((List.range ms.length).filter fun k => mle ms a k && mle ms k b).length : Int) == 2)) = isCov ms a b := by
        unfold isCov btw
        congr 1
        · congr 1
          cases e : (a == b) with
          | true => rw [beq_iff_eq] at e; rw [e]; simp
          | false => rw [beq_eq_false_iff_ne] at e ⊢; omega
        · cases e : (((List.range ms.length).filter fun k => mle ms a k && mle ms k b).length == 2) with
          | true => rw [beq_iff_eq] at e; rw [e]; rfl
          | false => rw [beq_eq_false_iff_ne] at e ⊢; omega
      rw [this]
      cases e : isCov ms a b with
      | true =>
        simp only [cond_true, bs]
        unfold appM
        rw [sz_t (by omega)]
        simp
      | false => simp) hs
    show ((forS (m__law_covers_b2 (nts ms) (a : Int)) (List.map (fun i : Nat => (i : Int)) (List.range ms.length)) s).bind some) = _
    rw [this]
    rfl) (by simp only [List.length_nil, Nat.zero_add]; exact Nat.le_trans h3 h2)
  show ((forS (m__law_covers_b1 (nts ms)) (List.map (fun i : Nat => (i : Int)) (List.range ms.length)) []).bind some) = _
  rw [this]
  rfl
theorem filter_lt {α : Type} {p q : α → Bool} : ∀ {xs : List α}, (∀ x ∈ xs, q x = true → p x = true) → (∃ x ∈ xs, p x = true ∧ q x = false) → (xs.filter q).length < (xs.filter p).length
  | [], _, h => by obtain ⟨_, h, _⟩ := h; cases h
  | x :: xs, h, h2 => by
    have hle : ∀ {xs : List α}, (∀ x ∈ xs, q x = true → p x = true) → (xs.filter q).length ≤ (xs.filter p).length := by
      intro xs
      induction xs with
      | nil => intro _; simp
      | cons y ys ih =>
        intro h
        have := ih fun z hz => h z (List.mem_cons_of_mem _ hz)
        have h1 := h y (List.mem_cons_self ..)
        simp only [List.filter_cons]
        cases e : q y <;> cases e2 : p y <;> simp_all <;> omega
    have hx := h x (List.mem_cons_self ..)
    have ht := fun y hy => h y (List.mem_cons_of_mem x hy)
    obtain ⟨y, hy, h3, h4⟩ := h2
    simp only [List.filter_cons]
    rcases List.mem_cons.mp hy with rfl | hy
    · rw [h3, h4]
      have := hle ht
      simp
      omega
    · have := filter_lt ht ⟨y, hy, h3, h4⟩
      cases e : q x <;> cases e2 : p x <;> simp_all <;> omega
/-- pairs that tell the order of the masks -/
structure Told (ms : List Nat) (ps : List (Int × Int)) : Prop where
  rg : ∀ p ∈ ps, ∃ a b : Nat, a < ms.length ∧ b < ms.length ∧ mle ms a b = true ∧ p = ((a : Int), (b : Int))
  cv : ∀ p ∈ covs ms, p ∈ ps
theorem cov_le {ms : List Nat} (h : Masks ms) {a b : Nat} (ha : a < ms.length) (hb : b < ms.length) (hc : isCov ms a b = true) : mle ms a b = true := by
  unfold isCov at hc
  rw [Bool.and_eq_true, beq_iff_eq] at hc
  have hl : btw ms a b ≠ [] := by intro e; rw [e] at hc; exact absurd hc.2 (by decide)
  obtain ⟨k, hk⟩ := List.exists_mem_of_ne_nil _ hl
  unfold btw at hk
  rw [List.mem_filter, Bool.and_eq_true, List.mem_range] at hk
  exact (mOrd h).tr a k b ha hk.1 hb hk.2.1 hk.2.2
theorem Told.covs {ms : List Nat} (h : Masks ms) : Told ms (covs ms) :=
  ⟨fun p hp => by obtain ⟨a, b, ha, hb, hc, rfl⟩ := covs_mem.mp hp; exact ⟨a, b, ha, hb, cov_le h ha hb hc, rfl⟩, fun p hp => hp⟩
theorem Told.gens {ms : List Nat} {ps : List (Int × Int)} (h : Masks ms) (t : Told ms ps) : Gens ms.length (mle ms) ps where
  rg p hp := by obtain ⟨a, b, ha, hb, _, e⟩ := t.rg p hp; exact ⟨a, b, ha, hb, e⟩
  sd a b ha hb hp := by
    obtain ⟨c, d, _, _, hc, e⟩ := t.rg _ hp
    rw [Prod.mk.injEq] at e
    have h1 : a = c := by omega
    have h2 : b = d := by omega
    subst h1; subst h2
    exact hc
  gn S rf tr sd := by
    have o := mOrd h
    have key : ∀ k a b, (btw ms a b).length ≤ k → a < ms.length → b < ms.length → mle ms a b = true → S a b := by
      intro k
      induction k with
      | zero =>
        intro a b hk ha hb hle
        have : a ∈ btw ms a b := by unfold btw; rw [List.mem_filter, List.mem_range]; simp [ha, o.rf a ha, hle]
        rw [show btw ms a b = [] from List.length_eq_zero_iff.mp (by omega)] at this
        cases this
      | succ k ih =>
        intro a b hk ha hb hle
        by_cases hab : a = b
        · subst hab; exact rf a ha
        have hm : ∀ x, x ∈ btw ms a b ↔ x < ms.length ∧ mle ms a x = true ∧ mle ms x b = true := fun x => by
          unfold btw; rw [List.mem_filter, List.mem_range, Bool.and_eq_true]
        have hA := (hm a).mpr ⟨ha, o.rf a ha, hle⟩
        have hB := (hm b).mpr ⟨hb, hle, o.rf b hb⟩
        have hnd : (btw ms a b).Nodup := List.Pairwise.filter _ List.nodup_range
        have h2 : 2 ≤ (btw ms a b).length := len_sub (l := [a, b]) (by simp [hab]) (by
          intro x hx
          rcases List.mem_cons.mp hx with rfl | hx
          · exact hA
          · rw [List.mem_singleton] at hx; subst hx; exact hB)
        by_cases h3 : (btw ms a b).length = 2
        · refine sd a b ha hb (t.cv _ (covs_mem.mpr ⟨a, b, ha, hb, ?_, rfl⟩))
          unfold isCov
          simp [hab, h3]
        · have : ∃ c, c ∈ btw ms a b ∧ c ≠ a ∧ c ≠ b := Classical.byContradiction fun q => by
            have := len_sub (l2 := [a, b]) hnd (by
              intro x hx
              by_cases e1 : x = a
              · simp [e1]
              · by_cases e2 : x = b
                · simp [e2]
                · exact absurd ⟨x, hx, e1, e2⟩ q)
            simp at this
            omega
          obtain ⟨c, hc, hca, hcb⟩ := this
          obtain ⟨c1, c2, c3⟩ := (hm c).mp hc
          have l1 : (btw ms a c).length < (btw ms a b).length := filter_lt (fun x hx hq => by
            rw [Bool.and_eq_true] at hq ⊢
            exact ⟨hq.1, o.tr x c b (List.mem_range.mp hx) c1 hb hq.2 c3⟩) ⟨b, List.mem_range.mpr hb, by simp [hle, o.rf b hb], by
              cases e : mle ms b c with
              | false => simp
              | true => exact absurd (o.an c b c1 hb c3 e) hcb⟩
          have l2 : (btw ms c b).length < (btw ms a b).length := filter_lt (fun x hx hq => by
            rw [Bool.and_eq_true] at hq ⊢
            exact ⟨o.tr a c x ha c1 (List.mem_range.mp hx) c2 hq.1, hq.2⟩) ⟨a, List.mem_range.mpr ha, by simp [hle, o.rf a ha], by
              cases e : mle ms c a with
              | false => simp
              | true => exact absurd (o.an c a c1 ha e c2) hca⟩
          exact tr a c b ha c1 hb (ih a c (by omega) ha c1 c2) (ih c b (by omega) c1 hb c3)
    intro a b ha hb hle
    exact key _ a b (Nat.le_refl _) ha hb hle
theorem Told.add {ms : List Nat} {ps : List (Int × Int)} (t : Told ms ps) {a b k : Nat} (ha : a < ms.length) (hb : b < ms.length) (hle : mle ms a b = true) : Told ms (ps.take k ++ [((a : Int), (b : Int))] ++ ps.drop k) := by
  have hm : ∀ p, p ∈ ps.take k ++ [((a : Int), (b : Int))] ++ ps.drop k ↔ p = ((a : Int), (b : Int)) ∨ p ∈ ps := fun p => by
    have : p ∈ ps ↔ p ∈ ps.take k ∨ p ∈ ps.drop k := by rw [← List.mem_append, List.take_append_drop]
    rw [this]
    simp only [List.mem_append, List.mem_singleton]
    constructor
    · rintro ((h | h) | h)
      · exact Or.inr (Or.inl h)
      · exact Or.inl h
      · exact Or.inr (Or.inr h)
    · rintro (h | h | h)
      · exact Or.inl (Or.inr h)
      · exact Or.inl (Or.inl h)
      · exact Or.inr h
  refine ⟨fun p hp => ?_, fun p hp => (hm p).mpr (Or.inr (t.cv p hp))⟩
  rcases (hm p).mp hp with rfl | h
  · exact ⟨a, b, ha, hb, hle, rfl⟩
  · exact t.rg p h
theorem pairs_b1 {xs : List (Int × Int)} {k : Nat} {x : Int} {s : List (Int × Int) × (List Int × List (Int × Int))} (hk : k < xs.length) (hl : xs.length < 1000) (h : (s.1 ++ s.2.2).Perm xs ∧ s.1.length = k) :
    ∃ s', m__law_pairs_given_b1 x s = some s' ∧ (s'.1 ++ s'.2.2).Perm xs ∧ s'.1.length = k + 1 := by
  obtain ⟨a, p, r⟩ := s
  obtain ⟨h1, h2⟩ := h
  have h1 : (a ++ r).Perm xs := h1
  have h2 : a.length = k := h2
  have hr := h1.length_eq
  rw [List.length_append] at hr
  unfold m__law_pairs_given_b1
  simp only [Option.bind_eq_bind, bs]
  obtain ⟨v, pot', e, hv⟩ := draw_eq p (n := r.length) (by omega)
  rw [e]
  simp only [bs]
  rw [popAt_eq hv (by omega)]
  simp only [bs]
  unfold appM
  rw [sz_t (by omega)]
  refine ⟨_, rfl, ?_, by simp [h2]⟩
  show ((a ++ [r[v]]) ++ r.eraseIdx v).Perm xs
  refine (List.Perm.trans ?_ h1)
  rw [List.append_assoc]
  exact List.Perm.append_left a (perm_erase hv).symm
theorem ins_eq {α : Type} {xs : List α} {k : Nat} {x : α} (h : xs.length < 100000) (hk : k ≤ xs.length) : insM xs (k : Int) x = some (xs.take k ++ [x] ++ xs.drop k) := by
  unfold insM
  rw [sz_t h, if_pos ⟨rfl, by omega, by omega⟩]
  rfl
theorem pairs_b2 {ms : List Nat} (hM : Masks ms) {x : Int} {k : Nat} {s : List (Int × Int) × List Int} (hk : k < 1000) (h : Told ms s.1 ∧ s.1.length ≤ k) :
    ∃ s', m__law_pairs_given_b2 (nts ms) x s = some s' ∧ Told ms s'.1 ∧ s'.1.length ≤ k + 1 := by
  obtain ⟨ps, p⟩ := s
  obtain ⟨h1, h2⟩ := h
  have h1 : Told ms ps := h1
  have h2 : ps.length ≤ k := h2
  unfold m__law_pairs_given_b2
  simp only [Option.bind_eq_bind, bs, nts_len]
  obtain ⟨a, p1, e, ha⟩ := draw_eq p (n := ms.length) hM.ne
  rw [e]
  simp only [bs]
  obtain ⟨b, p2, e, hb⟩ := draw_eq p1 (n := ms.length) hM.ne
  rw [e]
  simp only [bs]
  rw [under_eq ha hb, under_eq hb ha]
  simp only [bs]
  have hd : ∃ (v : Nat) (pot' : List Int), m__law_draw p2 ((ps.length : Int) + 1) = some ((v : Int), pot') ∧ v < ps.length + 1 := draw_lit p2 (ps.length + 1) (by omega) (by simp)
  obtain ⟨v, p3, e3, hv⟩ := hd
  have hi : ∀ q, insM ps (v : Int) q = some (ps.take v ++ [q] ++ ps.drop v) := fun q => ins_eq (by omega) (by omega)
  have hlen : ∀ q : Int × Int, (ps.take v ++ [q] ++ ps.drop v).length = ps.length + 1 := fun q => by
    simp only [List.length_append, List.length_take, List.length_drop, List.length_singleton]
    omega
  rw [e3]
  cases e1 : mle ms a b with
  | true =>
    simp only [cond_true, bs, hi]
    exact ⟨_, rfl, h1.add ha hb e1, by rw [hlen]; omega⟩
  | false =>
    cases e2 : mle ms b a with
    | true =>
      simp only [cond_true, cond_false, bs, hi]
      exact ⟨_, rfl, h1.add hb ha e2, by rw [hlen]; omega⟩
    | false =>
      simp only [cond_true, cond_false, bs]
      exact ⟨_, rfl, h1, Nat.le_succ_of_le h2⟩
theorem pairs_given_eq (pot : List Int) {ms : List Nat} (hM : Masks ms) (hl : ms.length ≤ 12) : ∃ ps pot', m__law_pairs_given pot (nts ms) = some (ps, pot') ∧ Told ms ps ∧ ps.length ≤ 150 := by
  unfold m__law_pairs_given
  rw [covers_eq hl]
  simp only [Option.bind_eq_bind, bs]
  have hc := covs_len ms
  have h2 : ms.length * ms.length ≤ 144 := Nat.mul_le_mul hl hl
  rw [rngM0 (by omega)]
  simp only [bs]
  obtain ⟨s, e7, h7⟩ := forS_keep (body := m__law_pairs_given_b1) (xs := tab (covs ms).length fun i => (i : Int)) (k := 0) (I := fun j (s : List (Int × Int) × (List Int × List (Int × Int))) => (s.1 ++ s.2.2).Perm (covs ms) ∧ s.1.length = j) (s := ([], (pot, covs ms))) ⟨by simp, rfl⟩ (by
    intro x _ j s _ hj hs
    rw [tab_len] at hj
    exact pairs_b1 (by omega) (by omega) hs)
  rw [e7]
  simp only [bs]
  obtain ⟨a, p3, r⟩ := s
  obtain ⟨h8, h9⟩ := h7
  have h8 : (a ++ r).Perm (covs ms) := h8
  have h9 : a.length = 0 + (tab (covs ms).length fun i => (i : Int)).length := h9
  rw [tab_len] at h9
  have h10 := h8.length_eq
  rw [List.length_append] at h10
  have : r = [] := List.length_eq_zero_iff.mp (by omega)
  subst this
  rw [List.append_nil] at h8
  have ht : Told ms a := ⟨fun p hp => (Told.covs hM).rg p (h8.mem_iff.mp hp), fun p hp => h8.mem_iff.mpr hp⟩
  obtain ⟨v, p4, e, hv⟩ := draw_lit p3 6 (by decide) (z := 6) rfl
  rw [e]
  simp only [bs]
  rw [rngM0 (by omega)]
  simp only [bs]
  obtain ⟨s, e7, h7⟩ := forS_keep (body := m__law_pairs_given_b2 (nts ms)) (xs := tab v fun i => (i : Int)) (k := 144) (I := fun j (s : List (Int × Int) × List Int) => Told ms s.1 ∧ s.1.length ≤ j) (s := (a, p4)) ⟨ht, by show a.length ≤ 144; omega⟩ (by
    intro x _ j s _ hj hs
    rw [tab_len] at hj
    exact pairs_b2 hM (by omega) hs)
  rw [e7]
  simp only [bs]
  rw [tab_len] at h7
  exact ⟨_, _, rfl, h7.1, by have := h7.2; omega⟩
theorem below_kept_eq {ms : List Nat} {j m : Nat → Nat → Nat} {o : m_Order} (hl : ms.length ≤ 12) (h : IsOrd ms.length (mle ms) j m o) : m__law_below_kept o (nts ms) = some true := by
  unfold m__law_below_kept
  simp only [Option.bind_eq_bind, bs, nts_len]
  rw [rngM0 (by omega)]
  simp only [bs]
  rw [forL_nxT]
  · rfl
  · intro a ha
    unfold m__law_below_kept_b1
    simp only [Option.bind_eq_bind, bs, nts_len]
    rw [rngM0 (by omega)]
    simp only [bs]
    rw [forL_nxT]
    · rfl
    · intro b hb
      unfold m__law_below_kept_b2
      rw [below_eq h ha hb, under_eq ha hb]
      simp only [Option.bind_eq_bind, bs, orO]
      simp
end My

namespace My
open PySem L2 Sim PyProof.Rows
theorem law_true (ns : List Int) : m_law ns = some true := by
  obtain ⟨pot, e⟩ := pot_eq ns
  unfold m_law
  rw [e]
  simp only [Option.bind_eq_bind, bs]
  obtain ⟨ms, p1, e, hM, hl⟩ := masks_eq pot (most := 8) (by decide)
  have e : m__law_masks pot 8 = some (nts ms, p1) := e
  rw [e]
  simp only [bs]
  obtain ⟨ps, p2, e, hT, _⟩ := pairs_given_eq p1 hM (by omega)
  rw [e]
  simp only [bs]
  obtain ⟨v, p3, e, hv⟩ := draw_lit p2 3 (by decide) (z := 3) rfl
  rw [e]
  simp only [bs, nts_len]
  obtain ⟨o, e, hO⟩ := Order_init_eq (mLat hM (by omega)) (hT.gens hM)
  rw [Order_init_T, Order_init_C, e]
  have hb := below_kept_eq (by omega) hO
  cases ((v : Int) == 1) <;> simp [hb]
end My

set_option maxHeartbeats 0
namespace My
open PySem PySem.Spec PyProof.Rows L2 Sim
abbrev Rw1 : PySem.W.OpenRow := PySem.W.OpenLaw.row PySem.Challenge.rw_askedpoints_k01_order_of_pairs
abbrev hk : PySem.W.Hook := hookE 5 fa fn ex
def ob (s : PySem.W.SharedT) : AlE := obsEG 5 fa fn ex (HandSHeadRun.getT s)
theorem ob_eq (s : PySem.W.SharedT) : ob s = hk.obs s.abs := obsEG_eq (HandSHeadRun.getT_eq s)
def loose0 : List PySem.Str := ["_wall", "AskedError", "BadSize", "NotElement", "Ring", "NoJoin", "NoMeet", "closure", "turned", "least_above", "bounds_table", "first_ring", "first_lack", "longest", "neighbours"]
def loose1 : List PySem.Str := ["Order", "_law_pot", "_law_draw", "_law_masks", "_law_under", "_law_covers", "_law_pairs_given", "_law_below_kept"]
def loose : List PySem.Str := loose0 ++ (loose1)
theorem run (w : World) : HandSHeadRun.RunEq Rw1 (PySem.W.view Rw1.prog [27]) hk ob 4000 loose w := by
  intro os
  kernel_rfl
theorem glo_law (K : PySem.W.Frag) (mg : Str → Option Value) (T : Tx K mg) : mg "law" = some (.ref (He.ga K "law")) := T.glo 23 rfl
end My
open PySem PySem.W PySem.Calls PyProof.Rows
theorem PySem.Challenge.cw_askedpoints_k01_order_of_pairs_holds : PySem.Challenge.rw_askedpoints_k01_order_of_pairs.Holds := by
  w_on; o_law
  refine HandSHeadRun.head_any (r := OpenLaw.row PySem.Challenge.rw_askedpoints_k01_order_of_pairs) (q := view (OpenLaw.row PySem.Challenge.rw_askedpoints_k01_order_of_pairs).prog [27]) (H := My.hk) (ob := My.ob) (M := 4000) (loose := My.loose) (d := HandSHeadRun.topDef (OpenLaw.row PySem.Challenge.rw_askedpoints_k01_order_of_pairs).prog 27) (kwd := []) My.ob_eq
    (by kernel_rfl) (fun s => by kernel_rfl) My.run (by kernel_rfl) (by kernel_rfl) (by kernel_rfl) (by rfl) (by first | assumption | decide +kernel) (by decide +kernel) ⟨rfl, rfl, rfl, rfl, rfl, by decide +kernel⟩ ?hw ?hc
  case hw => w_witness2
  case hc =>
    refine L2.walk_ofE (l := PySem.Challenge.rw_askedpoints_k01_order_of_pairs) (n := 63) (k := 5) (x := "_law_script") (CX := L2.CX0) rfl (by decide) (by kernel_rfl) ⟨rfl, by decide, by decide⟩ ?F (fun _ _ _ _ z => z)
    intro w mg fa h Y G hmg0
    obtain ⟨K, KX, c⟩ := Y
    have T : My.Tx K mg := ⟨⟨⟨h, KX, G⟩, c.d⟩, c.x⟩
    have e : (HandSHeadRun.topDef (OpenLaw.row PySem.Challenge.rw_askedpoints_k01_order_of_pairs).prog 27).name = ("law" : PySem.Str) := by kernel_rfl
    rw [e, My.glo_law K mg T] at hmg0
    cases hmg0
    obtain ⟨fd, F, hF⟩ := My.ok_law (P := (PySem.Challenge.rw_askedpoints_k01_order_of_pairs).prog) (w := w) T
    exact ⟨K, fd, _, KX, fun s u => F.bindsA (ps := ["_law_script"]) (fun kV doc pm an cdv ct us hl => by (cases us with | nil => cases hl | cons a t => cases t with | nil => rfl | cons b t => cases hl)) s [u] rfl, fun H a ns hl _ hS => ⟨H, (ns, ()), true, Evl.Ex.refl _, ⟨.ref a, [], rfl, ⟨a, rfl, hS⟩, rfl⟩, My.law_true ns, fun v H2 G2 u hv => hv⟩, fun base _ _ => hF base⟩
