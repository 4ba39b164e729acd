import PyProof.Rows.All
import Wide.All
import OpenK.AllK
import Wide.FinOn
import HandS.ForMost
import HandS.Exc
import HandS.ExcOwn
import HandS.WordsExc
import HandS.CallSlots
import HandS.Star
import HandS.IsInst
import HandS.Flow
import HandS.Deep
import HandS.Wide
import HandS.TupAny
import HandS.Rev
import HandS.RevRange
import HandS.Zip
import HandS.SortInts
import PySem.Challenge.RW_stillroom_k45_styles
set_option Elab.async false
set_option linter.all false
section
set_option maxRecDepth 100000
set_option maxHeartbeats 1000000
namespace Dv
open PySem PySem.Spec PyProof.Rows L2

/-- a value as plain data; lists and dicts carry whether they are owned (may be changed) -/
inductive D where
  | non | bl (b : Bool) | int (i : Int) | str (x : Str)
  | tup (xs : List D)
  | lst (o : Bool) (xs : List D)
  | scr (xs : List D)
  | dic (o : Bool) (ks : List Key) (xs : List D)
  | dit (o : Bool) (ks : List (List Key)) (xs : List D)
  | ins (c : Nat) (fs : List Str) (xs : List D)

mutual
def D.pure : D → Bool
  | .non => true | .bl _ => true | .int _ => true | .str _ => true
  | .tup xs => D.pureL xs
  | .lst o xs => !o && D.pureL xs
  | .scr xs => D.pureL xs
  | .dic o _ xs => !o && D.pureL xs
  | .dit o _ xs => !o && D.pureL xs
  | .ins _ _ _ => false
def D.pureL : List D → Bool
  | [] => true
  | x :: xs => x.pure && D.pureL xs
end
mutual
/-- frozen: nothing is owned any more (instances stay) -/
def D.frz : D → D
  | .non => .non | .bl b => .bl b | .int i => .int i | .str x => .str x
  | .tup xs => .tup (D.frzL xs)
  | .lst _ xs => .lst false (D.frzL xs)
  | .scr xs => .scr (D.frzL xs)
  | .dic _ ks xs => .dic false ks (D.frzL xs)
  | .dit _ ks xs => .dit false ks (D.frzL xs)
  | .ins c fs xs => .ins c fs xs
def D.frzL : List D → List D
  | [] => []
  | x :: xs => x.frz :: D.frzL xs
end
mutual
/-- may be frozen: no instance in it -/
def D.cold : D → Bool
  | .non => true | .bl _ => true | .int _ => true | .str _ => true
  | .tup xs => D.coldL xs
  | .lst _ xs => D.coldL xs
  | .scr xs => D.coldL xs
  | .dic _ _ xs => D.coldL xs
  | .dit _ _ xs => D.coldL xs
  | .ins _ _ _ => false
def D.coldL : List D → Bool
  | [] => true
  | x :: xs => x.cold && D.coldL xs
end
mutual
/-- no frozen list or dict in it: it can't share a list with anything -/
def D.noFz : D → Bool
  | .non => true | .bl _ => true | .int _ => true | .str _ => true
  | .tup xs => D.noFzL xs
  | .lst o xs => o && D.noFzL xs
  | .scr xs => false
  | .dic o _ xs => o && D.noFzL xs
  | .dit o _ xs => o && D.noFzL xs
  | .ins _ _ xs => D.noFzL xs
def D.noFzL : List D → Bool
  | [] => true
  | x :: xs => x.noFz && D.noFzL xs
end

/-- what a def's proof is written over: the written part, the classes' addresses -/
structure Kx where
  K : PySem.W.Frag
  cm : Nat → Addr

mutual
/-- the value v stands for the data d: what is frozen lies in HF, what is owned in H at the addresses A -/
def Rp (k : Kx) (HF H : Hp) : D → V → List Addr → Prop
  | .non, v, A => v = .non ∧ A = []
  | .bl b, v, A => v = .bl b ∧ A = []
  | .int i, v, A => v = .int i ∧ A = []
  | .str x, v, A => v = .str x ∧ A = []
  | .tup ds, v, A => ∃ a xs, v = .ref a ∧ SqT k.K HF a xs ∧ RpL k HF H ds xs A
  | .lst o ds, v, A => ∃ a xs B, v = .ref a ∧ RpL k HF H ds xs B ∧
      (o = false → HF a = some (.lst xs) ∧ A = [] ∧ B = []) ∧ (o = true → A = a :: B ∧ HF a = none ∧ H a = some (.lst xs))
  | .scr ds, v, A => ∃ a xs, v = .ref a ∧ A = [] ∧ SqL k.K HF a xs ∧ RpL k HF H ds xs []
  | .dic o ks ds, v, A => ∃ a xs B, v = .ref a ∧ ks.length = xs.length ∧ RpL k HF H ds xs B ∧
      (o = false → HF a = some (.dK (ks.zip xs)) ∧ A = [] ∧ B = []) ∧ (o = true → A = a :: B ∧ HF a = none ∧ H a = some (.dK (ks.zip xs)))
  | .dit o ks ds, v, A => ∃ a xs B, v = .ref a ∧ ks.length = xs.length ∧ RpL k HF H ds xs B ∧
      (o = false → HF a = some (.dT (ks.zip xs)) ∧ A = [] ∧ B = []) ∧ (o = true → A = a :: B ∧ HF a = none ∧ H a = some (.dT (ks.zip xs)))
  | .ins c fs ds, v, A => ∃ a dx xs B, v = .ref a ∧ fs.length = xs.length ∧ RpL k HF H ds xs B ∧ A = a :: B ∧ HF a = none ∧ H a = some (.ins (k.cm c) dx (fs.zip xs))
def RpL (k : Kx) (HF H : Hp) : List D → List V → List Addr → Prop
  | [], xs, A => xs = [] ∧ A = []
  | d :: ds, xs, A => ∃ v vs B C, xs = v :: vs ∧ A = B ++ C ∧ Rp k HF H d v B ∧ RpL k HF H ds vs C
end

def Ex (H H' : Hp) : Prop := ∀ a o, H a = some o → H' a = some o
theorem Ex.refl (H : Hp) : Ex H H := fun _ _ h => h
theorem Ex.trans {H H1 H2 : Hp} (a : Ex H H1) (b : Ex H1 H2) : Ex H H2 := fun x o h => b x o (a x o h)
theorem Ex.new {H : Hp} {p : Addr} {o : HO} (h : H p = none) : Ex H (upd H p o) := fun a u e => by
  rw [upd_ne (ne_of_none e h)]
  exact e
theorem ex_rd {H H' : Hp} {a : Addr} {u : HO} (e : Ex H H') (h : Rd H a u) : Rd H' a u := by
  rcases h with h | ⟨o, h⟩
  · exact Or.inl (e a _ h)
  · exact Or.inr ⟨o, e a _ h⟩
theorem ex_l {K : PySem.W.Frag} {H H' : Hp} {a : Addr} {xs : List V} (e : Ex H H') (h : SqL K H a xs) : SqL K H' a xs := by
  rcases h with h | h
  · exact Or.inl (ex_rd e h)
  · exact Or.inr h
theorem ex_t {K : PySem.W.Frag} {H H' : Hp} {a : Addr} {xs : List V} (e : Ex H H') (h : SqT K H a xs) : SqT K H' a xs := by
  rcases h with h | h
  · exact Or.inl (ex_rd e h)
  · exact Or.inr h

/-- a step of a pure evaluation -/
structure Tr (HF H HF' H' : Hp) : Prop where
  ff : Ex HF HF'
  hh : Ex H H'
  fh : Ex HF' H'
  no : ∀ a, HF a = none → H a ≠ none → HF' a = none
theorem Tr.refl {HF H : Hp} (h : Ex HF H) : Tr HF H HF H := ⟨.refl _, .refl _, h, fun _ e _ => e⟩
theorem Tr.trans {F H F1 H1 F2 H2 : Hp} (a : Tr F H F1 H1) (b : Tr F1 H1 F2 H2) : Tr F H F2 H2 :=
  ⟨a.ff.trans b.ff, a.hh.trans b.hh, b.fh, fun x e n => b.no x (a.no x e n) fun z => by
    cases q : H x with
    | none => exact n q
    | some o => rw [a.hh x o q] at z; cases z⟩

section
variable {k : Kx} {F H F' H' : Hp}
mutual
theorem Rp.mono (ff : Ex F F') : ∀ (d : D) (v : V) (A : List Addr), (∀ a ∈ A, ∀ o, H a = some o → F a = none → H' a = some o ∧ F' a = none) → Rp k F H d v A → Rp k F' H' d v A
  | .non, _, _, _, h => h
  | .bl _, _, _, _, h => h
  | .int _, _, _, _, h => h
  | .str _, _, _, _, h => h
  | .tup ds, v, A, n, h => by
    obtain ⟨a, xs, e, s, r⟩ := h
    exact ⟨a, xs, e, ex_t ff s, RpL.mono ff ds xs A n r⟩
  | .lst o ds, v, A, n, h => by
    obtain ⟨a, xs, B, e, r, h1, h2⟩ := h
    refine ⟨a, xs, B, e, RpL.mono ff ds xs B (fun b hb => n b ?_) r, fun q => ?_, fun q => ?_⟩
    · cases o with
      | false => rw [(h1 rfl).2.2] at hb; cases hb
      | true => rw [(h2 rfl).1]; exact List.mem_cons_of_mem _ hb
    · exact ⟨ff _ _ (h1 q).1, (h1 q).2⟩
    · have := n a (by rw [(h2 q).1]; exact List.mem_cons_self) _ (h2 q).2.2 (h2 q).2.1
      exact ⟨(h2 q).1, this.2, this.1⟩
  | .scr ds, v, A, n, h => by
    obtain ⟨a, xs, e, e2, s, r⟩ := h
    exact ⟨a, xs, e, e2, ex_l ff s, RpL.mono ff ds xs [] (fun _ z => nomatch z) r⟩
  | .dic o ks ds, v, A, n, h => by
    obtain ⟨a, xs, B, e, l, r, h1, h2⟩ := h
    refine ⟨a, xs, B, e, l, RpL.mono ff ds xs B (fun b hb => n b ?_) r, fun q => ?_, fun q => ?_⟩
    · cases o with
      | false => rw [(h1 rfl).2.2] at hb; cases hb
      | true => rw [(h2 rfl).1]; exact List.mem_cons_of_mem _ hb
    · exact ⟨ff _ _ (h1 q).1, (h1 q).2⟩
    · have := n a (by rw [(h2 q).1]; exact List.mem_cons_self) _ (h2 q).2.2 (h2 q).2.1
      exact ⟨(h2 q).1, this.2, this.1⟩
  | .dit o ks ds, v, A, n, h => by
    obtain ⟨a, xs, B, e, l, r, h1, h2⟩ := h
    refine ⟨a, xs, B, e, l, RpL.mono ff ds xs B (fun b hb => n b ?_) r, fun q => ?_, fun q => ?_⟩
    · cases o with
      | false => rw [(h1 rfl).2.2] at hb; cases hb
      | true => rw [(h2 rfl).1]; exact List.mem_cons_of_mem _ hb
    · exact ⟨ff _ _ (h1 q).1, (h1 q).2⟩
    · have := n a (by rw [(h2 q).1]; exact List.mem_cons_self) _ (h2 q).2.2 (h2 q).2.1
      exact ⟨(h2 q).1, this.2, this.1⟩
  | .ins c fs ds, v, A, n, h => by
    obtain ⟨a, dx, xs, B, e, l, r, h1, h2, h3⟩ := h
    have := n a (by rw [h1]; exact List.mem_cons_self) _ h3 h2
    exact ⟨a, dx, xs, B, e, l, RpL.mono ff ds xs B (fun b hb => n b (by rw [h1]; exact List.mem_cons_of_mem _ hb)) r, h1, this.2, this.1⟩
theorem RpL.mono (ff : Ex F F') : ∀ (ds : List D) (vs : List V) (A : List Addr), (∀ a ∈ A, ∀ o, H a = some o → F a = none → H' a = some o ∧ F' a = none) → RpL k F H ds vs A → RpL k F' H' ds vs A
  | [], _, _, _, h => h
  | d :: ds, xs, A, n, h => by
    obtain ⟨v, vs, B, C, e1, e2, h1, h2⟩ := h
    refine ⟨v, vs, B, C, e1, e2, Rp.mono ff d v B (fun a ha => n a ?_) h1, RpL.mono ff ds vs C (fun a ha => n a ?_) h2⟩
    · rw [e2]; exact List.mem_append_left _ ha
    · rw [e2]; exact List.mem_append_right _ ha
end
end
end Dv
end
section
set_option maxRecDepth 100000
set_option maxHeartbeats 1000000
namespace Dv
open PySem PySem.Spec PyProof.Rows L2
section
variable {k : Kx} {F H F' H' : Hp}
mutual
/-- what is pure owns nothing -/
theorem Rp.own_nil : ∀ (d : D) (v : V) (A : List Addr), d.pure = true → Rp k F H d v A → A = []
  | .non, _, _, _, h => h.2
  | .bl _, _, _, _, h => h.2
  | .int _, _, _, _, h => h.2
  | .str _, _, _, _, h => h.2
  | .tup ds, v, A, p, h => by
    obtain ⟨a, xs, e, s, r⟩ := h
    exact RpL.own_nil ds xs A p r
  | .lst o ds, v, A, p, h => by
    obtain ⟨a, xs, B, e, r, h1, h2⟩ := h
    cases o with
    | false => exact (h1 rfl).2.1
    | true => exact absurd p (by simp [D.pure])
  | .scr ds, v, A, p, h => by
    obtain ⟨a, xs, e, e2, s, r⟩ := h
    exact e2
  | .dic o ks ds, v, A, p, h => by
    obtain ⟨a, xs, B, e, l, r, h1, h2⟩ := h
    cases o with
    | false => exact (h1 rfl).2.1
    | true => exact absurd p (by simp [D.pure])
  | .dit o ks ds, v, A, p, h => by
    obtain ⟨a, xs, B, e, l, r, h1, h2⟩ := h
    cases o with
    | false => exact (h1 rfl).2.1
    | true => exact absurd p (by simp [D.pure])
  | .ins _ _ _, _, _, p, _ => absurd p (by simp [D.pure])
theorem RpL.own_nil : ∀ (ds : List D) (vs : List V) (A : List Addr), D.pureL ds = true → RpL k F H ds vs A → A = []
  | [], _, _, _, h => h.2
  | d :: ds, xs, A, p, h => by
    obtain ⟨v, vs, B, C, e1, e2, h1, h2⟩ := h
    have p' : d.pure = true ∧ D.pureL ds = true := by simpa [D.pureL] using p
    rw [e2, Rp.own_nil d v B p'.1 h1, RpL.own_nil ds vs C p'.2 h2]
    rfl
end
/-- what is pure stands on the frozen part alone -/
theorem Rp.pure {d : D} {v : V} {A : List Addr} (p : d.pure = true) (ff : Ex F F') (h : Rp k F H d v A) : Rp k F' H' d v [] := by
  have e := Rp.own_nil d v A p h
  subst e
  exact Rp.mono ff d v [] (fun _ z => nomatch z) h
theorem RpL.pure {ds : List D} {vs : List V} {A : List Addr} (p : D.pureL ds = true) (ff : Ex F F') (h : RpL k F H ds vs A) : RpL k F' H' ds vs [] := by
  have e := RpL.own_nil ds vs A p h
  subst e
  exact RpL.mono ff ds vs [] (fun _ z => nomatch z) h
mutual
/-- the owned addresses stand in H and not in F -/
theorem Rp.dom : ∀ (d : D) (v : V) (A : List Addr), Rp k F H d v A → ∀ a ∈ A, F a = none ∧ ∃ o, H a = some o ∧ (∀ xs, o ≠ .tup xs) ∧ ∀ ob u, o ≠ .frz ob u
  | .non, _, _, h => by rw [h.2]; exact fun _ z => nomatch z
  | .bl _, _, _, h => by rw [h.2]; exact fun _ z => nomatch z
  | .int _, _, _, h => by rw [h.2]; exact fun _ z => nomatch z
  | .str _, _, _, h => by rw [h.2]; exact fun _ z => nomatch z
  | .tup ds, v, A, h => by
    obtain ⟨a, xs, e, s, r⟩ := h
    exact RpL.dom ds xs A r
  | .lst o ds, v, A, h => by
    obtain ⟨a, xs, B, e, r, h1, h2⟩ := h
    cases o with
    | false => rw [(h1 rfl).2.1]; exact fun _ z => nomatch z
    | true =>
      rw [(h2 rfl).1]
      intro b hb
      rcases List.mem_cons.mp hb with rfl | hb
      · exact ⟨(h2 rfl).2.1, _, (h2 rfl).2.2, (fun _ z => nomatch z), (fun _ _ z => nomatch z)⟩
      · exact RpL.dom ds xs B r b hb
  | .scr ds, v, A, h => by
    obtain ⟨a, xs, e, e2, s, r⟩ := h
    rw [e2]; exact fun _ z => nomatch z
  | .dic o ks ds, v, A, h => by
    obtain ⟨a, xs, B, e, l, r, h1, h2⟩ := h
    cases o with
    | false => rw [(h1 rfl).2.1]; exact fun _ z => nomatch z
    | true =>
      rw [(h2 rfl).1]
      intro b hb
      rcases List.mem_cons.mp hb with rfl | hb
      · exact ⟨(h2 rfl).2.1, _, (h2 rfl).2.2, (fun _ z => nomatch z), (fun _ _ z => nomatch z)⟩
      · exact RpL.dom ds xs B r b hb
  | .dit o ks ds, v, A, h => by
    obtain ⟨a, xs, B, e, l, r, h1, h2⟩ := h
    cases o with
    | false => rw [(h1 rfl).2.1]; exact fun _ z => nomatch z
    | true =>
      rw [(h2 rfl).1]
      intro b hb
      rcases List.mem_cons.mp hb with rfl | hb
      · exact ⟨(h2 rfl).2.1, _, (h2 rfl).2.2, (fun _ z => nomatch z), (fun _ _ z => nomatch z)⟩
      · exact RpL.dom ds xs B r b hb
  | .ins c fs ds, v, A, h => by
    obtain ⟨a, dx, xs, B, e, l, r, h1, h2, h3⟩ := h
    rw [h1]
    intro b hb
    rcases List.mem_cons.mp hb with rfl | hb
    · exact ⟨h2, _, h3, (fun _ z => nomatch z), (fun _ _ z => nomatch z)⟩
    · exact RpL.dom ds xs B r b hb
theorem RpL.dom : ∀ (ds : List D) (vs : List V) (A : List Addr), RpL k F H ds vs A → ∀ a ∈ A, F a = none ∧ ∃ o, H a = some o ∧ (∀ xs, o ≠ .tup xs) ∧ ∀ ob u, o ≠ .frz ob u
  | [], _, _, h => by rw [h.2]; exact fun _ z => nomatch z
  | d :: ds, xs, A, h => by
    obtain ⟨v, vs, B, C, e1, e2, h1, h2⟩ := h
    rw [e2]
    intro b hb
    rcases List.mem_append.mp hb with hb | hb
    · exact Rp.dom d v B h1 b hb
    · exact RpL.dom ds vs C h2 b hb
end
/-- the frozen part with A's objects -/
def fz (F H : Hp) (A : List Addr) : Hp := fun a => if a ∈ A then H a else F a
theorem fz_in {A : List Addr} {a : Addr} (h : a ∈ A) : fz F H A a = H a := if_pos h
theorem fz_out {A : List Addr} {a : Addr} (h : a ∉ A) : fz F H A a = F a := if_neg h
theorem fz_ex {A : List Addr} (h : ∀ a ∈ A, F a = none) : Ex F (fz F H A) := fun a o e => by
  rw [fz_out fun z => by rw [h a z] at e; cases e]
  exact e
theorem fz_exH {A : List Addr} (h : Ex F H) : Ex (fz F H A) H := fun a o e => by
  by_cases q : a ∈ A
  · rw [fz_in q] at e; exact e
  · rw [fz_out q] at e; exact h a o e
mutual
theorem Rp.frz {A0 : List Addr} (n : ∀ a ∈ A0, F a = none) : ∀ (d : D) (v : V) (A : List Addr), d.cold = true → (∀ a ∈ A, a ∈ A0) → Rp k F H d v A → Rp k (fz F H A0) H' d.frz v []
  | .non, _, _, _, _, h => ⟨h.1, rfl⟩
  | .bl _, _, _, _, _, h => ⟨h.1, rfl⟩
  | .int _, _, _, _, _, h => ⟨h.1, rfl⟩
  | .str _, _, _, _, _, h => ⟨h.1, rfl⟩
  | .tup ds, v, A, c, m, h => by
    obtain ⟨a, xs, e, s, r⟩ := h
    exact ⟨a, xs, e, ex_t (fz_ex n) s, RpL.frz n ds xs A c m r⟩
  | .lst o ds, v, A, c, m, h => by
    obtain ⟨a, xs, B, e, r, h1, h2⟩ := h
    cases o with
    | false => exact ⟨a, xs, [], e, RpL.frz n ds xs B c (by rw [(h1 rfl).2.2]; exact fun _ z => nomatch z) r, fun _ => ⟨fz_ex n _ _ (h1 rfl).1, rfl, rfl⟩, (fun z => nomatch z)⟩
    | true =>
      have e1 := (h2 rfl).1
      refine ⟨a, xs, [], e, RpL.frz n ds xs B c (fun b hb => m b (by rw [e1]; exact List.mem_cons_of_mem _ hb)) r, fun _ => ⟨?_, rfl, rfl⟩, (fun z => nomatch z)⟩
      rw [fz_in (m a (by rw [e1]; exact List.mem_cons_self))]
      exact (h2 rfl).2.2
  | .scr ds, v, A, c, m, h => by
    obtain ⟨a, xs, e, e2, s, r⟩ := h
    exact ⟨a, xs, e, rfl, ex_l (fz_ex n) s, RpL.frz n ds xs [] c (fun _ z => nomatch z) r⟩
  | .dic o ks ds, v, A, c, m, h => by
    obtain ⟨a, xs, B, e, l, r, h1, h2⟩ := h
    cases o with
    | false => exact ⟨a, xs, [], e, l, RpL.frz n ds xs B c (by rw [(h1 rfl).2.2]; exact fun _ z => nomatch z) r, fun _ => ⟨fz_ex n _ _ (h1 rfl).1, rfl, rfl⟩, (fun z => nomatch z)⟩
    | true =>
      have e1 := (h2 rfl).1
      refine ⟨a, xs, [], e, l, RpL.frz n ds xs B c (fun b hb => m b (by rw [e1]; exact List.mem_cons_of_mem _ hb)) r, fun _ => ⟨?_, rfl, rfl⟩, (fun z => nomatch z)⟩
      rw [fz_in (m a (by rw [e1]; exact List.mem_cons_self))]
      exact (h2 rfl).2.2
  | .dit o ks ds, v, A, c, m, h => by
    obtain ⟨a, xs, B, e, l, r, h1, h2⟩ := h
    cases o with
    | false => exact ⟨a, xs, [], e, l, RpL.frz n ds xs B c (by rw [(h1 rfl).2.2]; exact fun _ z => nomatch z) r, fun _ => ⟨fz_ex n _ _ (h1 rfl).1, rfl, rfl⟩, (fun z => nomatch z)⟩
    | true =>
      have e1 := (h2 rfl).1
      refine ⟨a, xs, [], e, l, RpL.frz n ds xs B c (fun b hb => m b (by rw [e1]; exact List.mem_cons_of_mem _ hb)) r, fun _ => ⟨?_, rfl, rfl⟩, (fun z => nomatch z)⟩
      rw [fz_in (m a (by rw [e1]; exact List.mem_cons_self))]
      exact (h2 rfl).2.2
  | .ins _ _ _, _, _, c, _, _ => absurd c (by simp [D.cold])
theorem RpL.frz {A0 : List Addr} (n : ∀ a ∈ A0, F a = none) : ∀ (ds : List D) (vs : List V) (A : List Addr), D.coldL ds = true → (∀ a ∈ A, a ∈ A0) → RpL k F H ds vs A → RpL k (fz F H A0) H' (D.frzL ds) vs []
  | [], _, _, _, _, h => ⟨h.1, rfl⟩
  | d :: ds, xs, A, c, m, h => by
    obtain ⟨v, vs, B, C, e1, e2, h1, h2⟩ := h
    have c' : d.cold = true ∧ D.coldL ds = true := by simpa [D.coldL] using c
    exact ⟨v, vs, [], [], e1, rfl, Rp.frz n d v B c'.1 (fun a ha => m a (by rw [e2]; exact List.mem_append_left _ ha)) h1, RpL.frz n ds vs C c'.2 (fun a ha => m a (by rw [e2]; exact List.mem_append_right _ ha)) h2⟩
end
mutual
theorem D.frz_pure : ∀ d : D, d.cold = true → d.frz.pure = true
  | .non, _ => rfl | .bl _, _ => rfl | .int _, _ => rfl | .str _, _ => rfl
  | .tup xs, c => by simpa [D.frz, D.pure] using D.frzL_pure xs c
  | .lst _ xs, c => by simpa [D.frz, D.pure] using D.frzL_pure xs c
  | .scr xs, c => by simpa [D.frz, D.pure] using D.frzL_pure xs c
  | .dic _ _ xs, c => by simpa [D.frz, D.pure] using D.frzL_pure xs c
  | .dit _ _ xs, c => by simpa [D.frz, D.pure] using D.frzL_pure xs c
  | .ins _ _ _, c => absurd c (by simp [D.cold])
theorem D.frzL_pure : ∀ ds : List D, D.coldL ds = true → D.pureL (D.frzL ds) = true
  | [], _ => rfl
  | d :: ds, c => by
    have c' : d.cold = true ∧ D.coldL ds = true := by simpa [D.coldL] using c
    simp [D.frzL, D.pureL, D.frz_pure d c'.1, D.frzL_pure ds c'.2]
end
mutual
theorem D.pure_cold : ∀ d : D, d.pure = true → d.cold = true
  | .non, _ => rfl | .bl _, _ => rfl | .int _, _ => rfl | .str _, _ => rfl
  | .tup xs, c => D.pureL_cold xs c
  | .lst o xs, c => D.pureL_cold xs (by simp [D.pure] at c; exact c.2)
  | .scr xs, c => D.pureL_cold xs c
  | .dic o _ xs, c => D.pureL_cold xs (by simp [D.pure] at c; exact c.2)
  | .dit o _ xs, c => D.pureL_cold xs (by simp [D.pure] at c; exact c.2)
  | .ins _ _ _, c => absurd c (by simp [D.pure])
theorem D.pureL_cold : ∀ ds : List D, D.pureL ds = true → D.coldL ds = true
  | [], _ => rfl
  | d :: ds, c => by
    have c' : d.pure = true ∧ D.pureL ds = true := by simpa [D.pureL] using c
    simp [D.coldL, D.pure_cold d c'.1, D.pureL_cold ds c'.2]
end
mutual
theorem D.pure_frz : ∀ d : D, d.pure = true → d.frz = d
  | .non, _ => rfl | .bl _, _ => rfl | .int _, _ => rfl | .str _, _ => rfl
  | .tup xs, c => by rw [D.frz, D.pureL_frzL xs c]
  | .lst o xs, c => by simp [D.pure] at c; rw [D.frz, D.pureL_frzL xs c.2, c.1]
  | .scr xs, c => by rw [D.frz, D.pureL_frzL xs c]
  | .dic o _ xs, c => by simp [D.pure] at c; rw [D.frz, D.pureL_frzL xs c.2, c.1]
  | .dit o _ xs, c => by simp [D.pure] at c; rw [D.frz, D.pureL_frzL xs c.2, c.1]
  | .ins _ _ _, c => absurd c (by simp [D.pure])
theorem D.pureL_frzL : ∀ ds : List D, D.pureL ds = true → D.frzL ds = ds
  | [], _ => rfl
  | d :: ds, c => by
    have c' : d.pure = true ∧ D.pureL ds = true := by simpa [D.pureL] using c
    rw [D.frzL, D.pure_frz d c'.1, D.pureL_frzL ds c'.2]
end
mutual
/-- without frozen lists: the frozen part may lose addresses of lists and dicts -/
theorem Rp.thin (m : List Addr) (hm : ∀ a ∈ m, ∀ o, F a = some o → (∀ xs, o ≠ .tup xs) ∧ ∀ ob u, o ≠ .frz ob u) : ∀ (d : D) (v : V) (A : List Addr), d.noFz = true → Rp k F H d v A → Rp k (fun a => if a ∈ m then none else F a) H d v A
  | .non, _, _, _, h => h
  | .bl _, _, _, _, h => h
  | .int _, _, _, _, h => h
  | .str _, _, _, _, h => h
  | .tup ds, v, A, p, h => by
    obtain ⟨a, xs, e, s, r⟩ := h
    refine ⟨a, xs, e, ?_, RpL.thin m hm ds xs A p r⟩
    rcases s with (s | ⟨o, s⟩) | s
    · refine .inl (.inl ?_)
      show (if a ∈ m then none else F a) = _
      rw [if_neg fun z => (hm a z _ s).1 _ rfl]
      exact s
    · refine .inl (.inr ⟨o, ?_⟩)
      show (if a ∈ m then none else F a) = _
      rw [if_neg fun z => (hm a z _ s).2 _ _ rfl]
      exact s
    · exact .inr s
  | .lst o ds, v, A, p, h => by
    obtain ⟨a, xs, B, e, r, h1, h2⟩ := h
    cases o with
    | false => exact absurd p (by simp [D.noFz])
    | true =>
      refine ⟨a, xs, B, e, RpL.thin m hm ds xs B (by simpa [D.noFz] using p) r, (fun z => nomatch z), fun _ => ⟨(h2 rfl).1, ?_, (h2 rfl).2.2⟩⟩
      show (if a ∈ m then none else F a) = none
      rw [(h2 rfl).2.1]; split <;> rfl
  | .scr _, _, _, p, _ => absurd p (by simp [D.noFz])
  | .dic o ks ds, v, A, p, h => by
    obtain ⟨a, xs, B, e, l, r, h1, h2⟩ := h
    cases o with
    | false => exact absurd p (by simp [D.noFz])
    | true =>
      refine ⟨a, xs, B, e, l, RpL.thin m hm ds xs B (by simpa [D.noFz] using p) r, (fun z => nomatch z), fun _ => ⟨(h2 rfl).1, ?_, (h2 rfl).2.2⟩⟩
      show (if a ∈ m then none else F a) = none
      rw [(h2 rfl).2.1]; split <;> rfl
  | .dit o ks ds, v, A, p, h => by
    obtain ⟨a, xs, B, e, l, r, h1, h2⟩ := h
    cases o with
    | false => exact absurd p (by simp [D.noFz])
    | true =>
      refine ⟨a, xs, B, e, l, RpL.thin m hm ds xs B (by simpa [D.noFz] using p) r, (fun z => nomatch z), fun _ => ⟨(h2 rfl).1, ?_, (h2 rfl).2.2⟩⟩
      show (if a ∈ m then none else F a) = none
      rw [(h2 rfl).2.1]; split <;> rfl
  | .ins c fs ds, v, A, p, h => by
    obtain ⟨a, dx, xs, B, e, l, r, h1, h2, h3⟩ := h
    refine ⟨a, dx, xs, B, e, l, RpL.thin m hm ds xs B p r, h1, ?_, h3⟩
    show (if a ∈ m then none else F a) = none
    rw [h2]; split <;> rfl
theorem RpL.thin (m : List Addr) (hm : ∀ a ∈ m, ∀ o, F a = some o → (∀ xs, o ≠ .tup xs) ∧ ∀ ob u, o ≠ .frz ob u) : ∀ (ds : List D) (vs : List V) (A : List Addr), D.noFzL ds = true → RpL k F H ds vs A → RpL k (fun a => if a ∈ m then none else F a) H ds vs A
  | [], _, _, _, h => h
  | d :: ds, xs, A, p, h => by
    obtain ⟨v, vs, B, C, e1, e2, h1, h2⟩ := h
    have p' : d.noFz = true ∧ D.noFzL ds = true := by simpa [D.noFzL] using p
    exact ⟨v, vs, B, C, e1, e2, Rp.thin m hm d v B p'.1 h1, RpL.thin m hm ds vs C p'.2 h2⟩
end
/-! lists of data -/
theorem RpL.len : ∀ {ds : List D} {vs : List V} {A : List Addr}, RpL k F H ds vs A → ds.length = vs.length
  | [], _, _, h => by rw [h.1]; rfl
  | d :: ds, xs, A, h => by
    obtain ⟨v, vs, B, C, e1, e2, h1, h2⟩ := h
    rw [e1, List.length_cons, List.length_cons, RpL.len h2]
theorem RpL.get : ∀ {ds : List D} {vs : List V} {A : List Addr} {i : Nat} {d : D}, RpL k F H ds vs A → ds[i]? = some d → ∃ v B, vs[i]? = some v ∧ Rp k F H d v B ∧ ∀ a ∈ B, a ∈ A
  | [], _, _, i, _, _, e => by simp at e
  | d :: ds, xs, A, 0, d', h, e => by
    obtain ⟨v, vs, B, C, e1, e2, h1, h2⟩ := h
    have e' : d = d' := by simpa using e
    subst e'
    exact ⟨v, B, by rw [e1]; rfl, h1, fun a ha => by rw [e2]; exact List.mem_append_left _ ha⟩
  | d :: ds, xs, A, i + 1, d', h, e => by
    obtain ⟨v, vs, B, C, e1, e2, h1, h2⟩ := h
    obtain ⟨w, B', g1, g2, g3⟩ := RpL.get (i := i) h2 (by simpa using e)
    exact ⟨w, B', by rw [e1]; exact g1, g2, fun a ha => by rw [e2]; exact List.mem_append_right _ (g3 a ha)⟩
theorem RpL.append : ∀ {ds es : List D} {vs ws : List V} {A B : List Addr}, RpL k F H ds vs A → RpL k F H es ws B → RpL k F H (ds ++ es) (vs ++ ws) (A ++ B)
  | [], es, vs, ws, A, B, h, h' => by
    rw [h.1, h.2]
    exact h'
  | d :: ds, es, xs, ws, A, B, h, h' => by
    obtain ⟨v, vs, A1, A2, e1, e2, h1, h2⟩ := h
    refine ⟨v, vs ++ ws, A1, A2 ++ B, by rw [e1]; rfl, by rw [e2, List.append_assoc], h1, RpL.append h2 h'⟩
theorem RpL.one {d : D} {v : V} {A : List Addr} (h : Rp k F H d v A) : RpL k F H [d] [v] A := ⟨v, [], A, [], rfl, (List.append_nil A).symm, h, rfl, rfl⟩
theorem RpL.take : ∀ {ds : List D} {vs : List V} (n : Nat), RpL k F H ds vs [] → RpL k F H (ds.take n) (vs.take n) []
  | ds, vs, 0, _ => by
    rw [List.take_zero, List.take_zero]
    exact ⟨rfl, rfl⟩
  | [], vs, n + 1, h => by
    rw [h.1]
    exact ⟨rfl, rfl⟩
  | d :: ds, xs, n + 1, h => by
    obtain ⟨v, vs, A1, A2, e1, e2, h1, h2⟩ := h
    obtain ⟨r1, r2⟩ := List.append_eq_nil_iff.mp e2.symm
    subst r1 r2
    exact ⟨v, vs.take n, [], [], by rw [e1]; rfl, rfl, h1, RpL.take n h2⟩
theorem RpL.drop : ∀ {ds : List D} {vs : List V} (n : Nat), RpL k F H ds vs [] → RpL k F H (ds.drop n) (vs.drop n) []
  | ds, vs, 0, h => h
  | [], vs, n + 1, h => by
    rw [h.1]
    exact ⟨rfl, rfl⟩
  | d :: ds, xs, n + 1, h => by
    obtain ⟨v, vs, A1, A2, e1, e2, h1, h2⟩ := h
    obtain ⟨r1, r2⟩ := List.append_eq_nil_iff.mp e2.symm
    subst r1 r2
    rw [e1]
    exact RpL.drop (vs := vs) n h2
theorem RpL.reverse : ∀ {ds : List D} {vs : List V}, RpL k F H ds vs [] → RpL k F H ds.reverse vs.reverse []
  | [], vs, h => by
    rw [h.1]
    exact ⟨rfl, rfl⟩
  | d :: ds, xs, h => by
    obtain ⟨v, vs, A1, A2, e1, e2, h1, h2⟩ := h
    obtain ⟨r1, r2⟩ := List.append_eq_nil_iff.mp e2.symm
    subst r1 r2
    rw [e1, List.reverse_cons, List.reverse_cons]
    exact RpL.append (RpL.reverse h2) (RpL.one h1)
/-- a place set anew -/
theorem RpL.set : ∀ {ds : List D} {vs : List V} {A : List Addr} {i : Nat} {d : D} {v : V} {B : List Addr}, RpL k F H ds vs A → Rp k F H d v B → i < ds.length → ∃ A1 A2 A3, A = A1 ++ A2 ++ A3 ∧ RpL k F H (ds.set i d) (vs.set i v) (A1 ++ B ++ A3)
  | [], _, _, _, _, _, _, _, _, hi => by simp at hi
  | d0 :: ds, xs, A, 0, d, v, B, h, hd, hi => by
    obtain ⟨w, vs, A1, A2, e1, e2, h1, h2⟩ := h
    refine ⟨[], A1, A2, by rw [e2]; rfl, v, vs, B, A2, by rw [e1]; rfl, rfl, hd, h2⟩
  | d0 :: ds, xs, A, i + 1, d, v, B, h, hd, hi => by
    obtain ⟨w, vs, A1, A2, e1, e2, h1, h2⟩ := h
    obtain ⟨C1, C2, C3, e3, h3⟩ := RpL.set (i := i) h2 hd (by simpa using hi)
    refine ⟨A1 ++ C1, C2, C3, by rw [e2, e3]; simp, w, vs.set i v, A1, C1 ++ B ++ C3, by rw [e1]; rfl, by simp, h1, h3⟩
end
end Dv
end
section
set_option maxRecDepth 100000
set_option maxHeartbeats 1000000
namespace Dv
open PySem PySem.Spec PyProof.Rows L2

/-- what an expression comes to: nothing is said, a value, an exception of the class numbered -/
inductive R (α : Type) where
  | no | ok (a : α) | ex (c : Nat)
def R.bind {α β : Type} (r : R α) (f : α → R β) : R β :=
  match r with
  | .no => .no
  | .ok a => f a
  | .ex c => .ex c
@[simp] theorem R.bind_no {α β : Type} (f : α → R β) : (R.no).bind f = .no := rfl
@[simp] theorem R.bind_ok {α β : Type} (a : α) (f : α → R β) : (R.ok a).bind f = f a := rfl
@[simp] theorem R.bind_ex {α β : Type} (c : Nat) (f : α → R β) : (R.ex c).bind f = .ex c := rfl
abbrev Env := List (Option D)
/-- what a statement comes to -/
inductive SR where
  | no | nx (ρ : Env) | bk (ρ : Env) | ct (ρ : Env) | rt (d : D) (ρ : Env) | ex (c : Nat) (ρ : Env)

def Res {α : Type} (r : R α) (P : α → Prop) (E : Nat → Prop) : Prop :=
  match r with
  | .no => False
  | .ok a => P a
  | .ex c => E c
theorem Res.mono {α : Type} {r : R α} {P P' : α → Prop} {E E' : Nat → Prop} (h : Res r P E) (p : ∀ a, r = .ok a → P a → P' a) (e : ∀ c, r = .ex c → E c → E' c) : Res r P' E' := by
  cases r with
  | no => exact h
  | ok a => exact p a rfl h
  | ex c => exact e c rfl h
theorem Res.bind {α β : Type} {r : R α} {f : α → R β} {P : β → Prop} {E : Nat → Prop} (h : Res (r.bind f) P E) : Res r (fun a => Res (f a) P E) E := by
  cases r with
  | no => exact h
  | ok a => exact h
  | ex c => exact h

/-- a def's run: what was at its entry -/
structure En where
  k : Kx
  ec : Nat → Value
  He : Hp
  F0 : Hp
  B : List Addr
  bs : List Nat
  v0 : L2.St

/-- what the slots own -/
structure Sl (E : En) (F H : Hp) (σ : L2.St) (ρ : Env) (fp : Nat → List Addr) : Prop where
  rp : ∀ i d, ρ[i]? = some (some d) → ∃ v, σ[i]? = some (some v) ∧ Rp E.k F H d v (fp i)
  em : ∀ i, ρ[i]?.getD none = none → fp i = []
  nd : ∀ i, (fp i).Nodup
  dj : ∀ i j a, a ∈ fp i → a ∈ fp j → i = j
  nw : ∀ i a, a ∈ fp i → E.He a = none ∨ (a ∈ E.B ∧ i ∈ E.bs)
theorem some_some {ρ : Env} {i : Nat} {d : D} (e : ρ[i]?.getD none = some d) : ρ[i]? = some (some d) := by
  cases z : ρ[i]? with
  | none => rw [z] at e; cases e
  | some o => rw [z] at e; exact congrArg some e
theorem Sl.there {E : En} {F H : Hp} {σ : L2.St} {ρ : Env} {fp : Nat → List Addr} (s : Sl E F H σ ρ fp) {i : Nat} {a : Addr} (h : a ∈ fp i) : F a = none ∧ H a ≠ none := by
  cases e : ρ[i]?.getD none with
  | none => rw [s.em i e] at h; cases h
  | some d =>
    obtain ⟨v, _, r⟩ := s.rp i d (some_some e)
    obtain ⟨h1, o, h2, _⟩ := Rp.dom d v _ r a h
    exact ⟨h1, by rw [h2]; exact fun z => nomatch z⟩
structure Stt (E : En) (F H : Hp) (σ : L2.St) (ρ : Env) : Prop where
  e0 : Ex E.F0 F
  fh : Ex F H
  fr : ∀ a, E.F0 a = none → E.He a ≠ none → F a = none
  st : ∀ a o, E.He a = some o → a ∉ E.B → H a = some o
  bt : ∀ a ∈ E.B, H a ≠ none
  len : ρ.length = σ.length
  bv : ∀ i ∈ E.bs, σ[i]? = E.v0[i]?
  sl : ∃ fp, Sl E F H σ ρ fp

section
variable {E : En} {F H F' H' : Hp} {σ : L2.St} {ρ : Env}
theorem Rp.tr {k : Kx} {d : D} {v : V} {A : List Addr} (t : Tr F H F' H') (r : Rp k F H d v A) : Rp k F' H' d v A :=
  Rp.mono t.ff d v A (fun a _ o e n => ⟨t.hh a o e, t.no a n fun z => by rw [z] at e; cases e⟩) r
theorem RpL.tr {k : Kx} {d : List D} {v : List V} {A : List Addr} (t : Tr F H F' H') (r : RpL k F H d v A) : RpL k F' H' d v A :=
  RpL.mono t.ff d v A (fun a _ o e n => ⟨t.hh a o e, t.no a n fun z => by rw [z] at e; cases e⟩) r
/-- what was there at the entry is there -/
theorem Stt.there (s : Stt E F H σ ρ) {a : Addr} (h : E.He a ≠ none) : H a ≠ none := by
  by_cases b : a ∈ E.B
  · exact s.bt a b
  · cases q : E.He a with
    | none => exact absurd q h
    | some o => rw [s.st a o q b]; exact fun z => nomatch z
theorem Stt.new (s : Stt E F H σ ρ) {a : Addr} (h : H a = none) : E.He a = none := by
  cases q : E.He a with
  | none => rfl
  | some o => exact absurd h (s.there (by rw [q]; exact fun z => nomatch z))
theorem Stt.tr (s : Stt E F H σ ρ) (t : Tr F H F' H') : Stt E F' H' σ ρ := by
  obtain ⟨fp, sl⟩ := s.sl
  refine ⟨s.e0.trans t.ff, t.fh, fun a e n => t.no a (s.fr a e n) (s.there n), fun a o e b => t.hh a o (s.st a o e b), fun a b z => ?_, s.len, s.bv, fp, fun i d e => ?_, sl.em, sl.nd, sl.dj, sl.nw⟩
  · cases q : H a with
    | none => exact s.bt a b q
    | some o => rw [t.hh a o q] at z; cases z
  · obtain ⟨v, e1, r⟩ := sl.rp i d e
    exact ⟨v, e1, r.tr t⟩
end

/-! ### what is wanted -/
/-- of an expression whose value is its own; of one whose value may be looked at only -/
def tO (E : En) (W : WX) (f : Env → R D) : TE := fun σ H Q => ∃ F ρ, Stt E F H σ ρ ∧
  Res (f ρ) (fun d => ∀ F' H' v A, Tr F H F' H' → Rp E.k F' H' d v A → A.Nodup → (∀ a ∈ A, H a = none) → Q v H') (fun c => ∀ F' H', Tr F H F' H' → W (E.ec c) none σ H')
def tV (E : En) (W : WX) (f : Env → R D) : TE := fun σ H Q => ∃ F ρ, Stt E F H σ ρ ∧
  Res (f ρ) (fun d => ∀ F' H' v A, Tr F H F' H' → Rp E.k F' H' d v A → Q v H') (fun c => ∀ F' H', Tr F H F' H' → W (E.ec c) none σ H')
def tT (E : En) (W : WX) (f : Env → R Bool) : TT := fun σ H Q => ∃ F ρ, Stt E F H σ ρ ∧
  Res (f ρ) (fun b => ∀ F' H', Tr F H F' H' → Q b H') (fun c => ∀ F' H', Tr F H F' H' → W (E.ec c) none σ H')
/-- of an argument list: values that are looked at -/
def tA (E : En) (W : WX) (f : Env → R (List D)) : TA := fun σ H Q => ∃ F ρ, Stt E F H σ ρ ∧
  Res (f ρ) (fun ds => ∀ F' H' vs, Tr F H F' H' → Paired (fun v d => ∃ A, Rp E.k F' H' d v A) vs ds → Q vs H') (fun c => ∀ F' H', Tr F H F' H' → W (E.ec c) none σ H')
/-- what a def's end is: the value is new or old and frozen, what the caller has is as it was -/
structure Fin (E : En) (F' H' : Hp) (d : D) (v : V) : Prop where
  e0 : Ex E.F0 F'
  fh : Ex F' H'
  fr : ∀ a, E.F0 a = none → E.He a ≠ none → F' a = none
  st : ∀ a o, E.He a = some o → a ∉ E.B → H' a = some o
  bt : ∀ a ∈ E.B, H' a ≠ none
  rp : ∃ A, Rp E.k F' H' d v A ∧ A.Nodup ∧ ∀ a ∈ A, E.He a = none
def SRes (E : En) (W : WX) (F : Hp) (Z : Ends) (r : SR) : Prop :=
  match r with
  | .no => False
  | .nx ρ => ∀ F' H' σ, Ex F F' → Stt E F' H' σ ρ → Z.nx σ H'
  | .bk ρ => ∀ F' H' σ, Ex F F' → Stt E F' H' σ ρ → Z.bk σ H'
  | .ct ρ => ∀ F' H' σ, Ex F F' → Stt E F' H' σ ρ → Z.ct σ H'
  | .rt d ρ => ∀ F' H' σ v, Stt E F' H' σ ρ → Fin E F' H' d v → Z.rt v H'
  | .ex c ρ => ∀ F' H' σ, Ex F F' → Stt E F' H' σ ρ → W (E.ec c) none σ H'
def tSS (E : En) (W : WX) (f : Env → SR) : TS := fun Z σ H => ∃ F ρ, Stt E F H σ ρ ∧ SRes E W F Z (f ρ)

structure EO (X : Cx) (E : En) (W : WX) (e : Expr) (f : Env → R D) : Prop where
  pe : PE X e (tO E W f)
structure EV (X : Cx) (E : En) (W : WX) (e : Expr) (f : Env → R D) : Prop where
  pe : PE X e (tV E W f)
structure ET (X : Cx) (E : En) (W : WX) (e : Expr) (f : Env → R Bool) : Prop where
  pt : PT X e (tT E W f)
structure EW (X : Cx) (E : En) (W : WX) (e : Expr) (f : Env → R Bool) : Prop where
  pw : PW X e (tT E W f)
structure EA (X : Cx) (E : En) (W : WX) (es : List Expr) (f : Env → R (List D)) : Prop where
  pa : PA X es (tA E W f)
structure SS (X : Cx) (E : En) (W : WX) (st : Stmt) (f : Env → SR) : Prop where
  ps : PS X st (tSS E W f)
structure SB (X : Cx) (E : En) (W : WX) (st : List Stmt) (f : Env → SR) : Prop where
  ps : PSs X st (tSS E W f)

theorem pe_mono {X : Cx} {e : Expr} {t t' : TE} (h : PE X e t) (i : ∀ σ H Q, t' σ H Q → t σ H Q) : PE X e t' := ⟨fun pins s σ H Q I q => h.run pins s σ H Q I (i σ H Q q)⟩
theorem pt_mono {X : Cx} {e : Expr} {t t' : TT} (h : PT X e t) (i : ∀ σ H Q, t' σ H Q → t σ H Q) : PT X e t' := ⟨fun pins s σ H Q I q => h.run pins s σ H Q I (i σ H Q q)⟩
theorem pw_mono {X : Cx} {e : Expr} {t t' : TT} (h : PW X e t) (i : ∀ σ H Q, t' σ H Q → t σ H Q) : PW X e t' := ⟨fun wh pins s σ H Q I q => h.run wh pins s σ H Q I (i σ H Q q)⟩
theorem pa_mono {X : Cx} {e : List Expr} {t t' : TA} (h : PA X e t) (i : ∀ σ H Q, t' σ H Q → t σ H Q) : PA X e t' := ⟨fun p pins s σ H Q I q => h.run p pins s σ H Q I (i σ H Q q)⟩
theorem ps_mono {X : Cx} {e : Stmt} {t t' : TS} (h : PS X e t) (i : ∀ Z σ H, t' Z σ H → t Z σ H) : PS X e t' := ⟨fun pins s σ H Z I q => h.run pins s σ H Z I (i Z σ H q)⟩
theorem pss_mono {X : Cx} {e : List Stmt} {t t' : TS} (h : PSs X e t) (i : ∀ Z σ H, t' Z σ H → t Z σ H) : PSs X e t' := ⟨fun pins s σ H Z I q => h.run pins s σ H Z I (i Z σ H q)⟩

section
variable {X : Cx} {E : En} {W : WX}
/-- own values may be looked at -/
theorem EO.v {e : Expr} {f : Env → R D} (h : EO X E W e f) : EV X E W e f := ⟨pe_mono h.pe fun σ H Q ⟨F, ρ, s, q⟩ => ⟨F, ρ, s, q.mono (fun d _ p F' H' v A t r _ _ => p F' H' v A t r) fun _ _ z => z⟩⟩
/-- what is pure may be kept -/
def asOwn (f : Env → R D) : Env → R D := fun ρ => (f ρ).bind fun d => if d.pure then .ok d else .no
theorem EV.o {e : Expr} {f : Env → R D} (h : EV X E W e f) : EO X E W e (asOwn f) := by
  refine ⟨pe_mono h.pe fun σ H Q ⟨F, ρ, s, q⟩ => ⟨F, ρ, s, ?_⟩⟩
  refine Res.mono q.bind (fun d _ p F' H' v A t r => ?_) fun _ _ z => z
  by_cases c : d.pure = true
  · rw [if_pos c] at p
    have e := Rp.own_nil d v A c r
    subst e
    exact p F' H' v [] t r .nil fun _ z => nomatch z
  · rw [if_neg c] at p
    exact p.elim
/-- a result that is made on the way -/
def GOk (E : En) (F H : Hp) (Q : VK) (d : D) : Prop := ∀ F' H' v A, Tr F H F' H' → Rp E.k F' H' d v A → A.Nodup → (∀ a ∈ A, H a = none) → Q v H'
theorem GOk.back {E : En} {F H F1 H1 : Hp} {Q : VK} {d : D} (g : GOk E F H Q d) (t : Tr F H F1 H1) : GOk E F1 H1 Q d := fun F' H' v A t' r n u => g F' H' v A (t.trans t') r n fun a ha => by
  cases q : H a with
  | none => rfl
  | some o => rw [← u a ha, t.hh a o q]
theorem GOk.scal {E : En} {F H : Hp} {Q : VK} {d : D} {v : V} (fh : Ex F H) (g : GOk E F H Q d) (r : ∀ F H, Rp E.k F H d v []) : Q v H := g F H v [] (Tr.refl fh) (r F H) .nil fun _ z => nomatch z
theorem tr_new {F H : Hp} {p : Addr} {o : HO} (fh : Ex F H) (h : H p = none) : Tr F H F (upd H p o) := ⟨.refl _, .new h, fh.trans (.new h), fun _ e _ => e⟩
/-- a new frozen object -/
theorem tr_newF {F H : Hp} {p : Addr} {o : HO} (fh : Ex F H) (h : H p = none) : Tr F H (upd F p o) (upd H p o) := by
  have hf : F p = none := by
    cases q : F p with
    | none => rfl
    | some u => rw [fh p u q] at h; cases h
  refine ⟨.new hf, .new h, fun a u e => ?_, fun a e n => ?_⟩
  · by_cases q : a = p
    · subst q; rw [upd_same] at e ⊢; exact e
    · rw [upd_ne q] at e ⊢; exact fh a u e
  · rw [upd_ne fun z => n (by rw [z]; exact h)]; exact e
/-- a new list whose items are frozen -/
theorem GOk.lst {E : En} {F H : Hp} {Q : VK} {ds : List D} {xs : List V} {p : Addr} (fh : Ex F H) (g : GOk E F H Q (.lst true ds)) (hp : H p = none) (r : RpL E.k F H ds xs []) : Q (.ref p) (upd H p (.lst xs)) := by
  have hf : F p = none := by
    cases q : F p with
    | none => rfl
    | some u => rw [fh p u q] at hp; cases hp
  refine g F _ (.ref p) [p] (tr_new fh hp) ⟨p, xs, [], rfl, r.tr (tr_new fh hp), (fun z => nomatch z), fun _ => ⟨rfl, hf, upd_same⟩⟩ (by simp) fun a ha => ?_
  rw [List.mem_singleton.mp ha]; exact hp
theorem GOk.tup {E : En} {F H : Hp} {Q : VK} {ds : List D} {xs : List V} {p : Addr} (fh : Ex F H) (g : GOk E F H Q (.tup ds)) (hp : H p = none) (r : RpL E.k F H ds xs []) : Q (.ref p) (upd H p (.tup xs)) := by
  refine g _ _ (.ref p) [] (tr_newF fh hp) ⟨p, xs, rfl, .inl (.inl upd_same), r.tr (tr_newF fh hp)⟩ .nil fun _ z => nomatch z

/-! two operands -/
/-- what may be left unsaid -/
def R.opt {α : Type} : Option α → R α
  | some a => .ok a
  | none => .no
@[simp] theorem R.opt_some {α : Type} (a : α) : R.opt (some a) = .ok a := rfl
@[simp] theorem R.opt_none {α : Type} : (R.opt none : R α) = .no := rfl
def e2 (g : D → D → Option D) (fa fb : Env → R D) : Env → R D := fun ρ => (fa ρ).bind fun x => (fb ρ).bind fun y => R.opt (g x y)
@[simp] theorem e2_eq (g : D → D → Option D) (fa fb : Env → R D) (ρ : Env) : e2 g fa fb ρ = (fa ρ).bind fun x => (fb ρ).bind fun y => R.opt (g x y) := rfl
theorem Res.opt {α : Type} {o : Option α} {P : α → Prop} {E : Nat → Prop} (h : Res (R.opt o) P E) : ∃ a, o = some a ∧ P a := by
  cases o with
  | none => exact h.elim
  | some a => exact ⟨a, rfl, h⟩
/-- g says what the operation r does -/
def Says2 (E : En) (r : R2) (g : D → D → Option D) : Prop := ∀ F H x y v w A B Q d, Ex F H → Rp E.k F H x v A → Rp E.k F H y w B → g x y = some d → GOk E F H Q d → r v w H Q
theorem says2 {r : R2} {g : D → D → Option D} (hg : Says2 E r g) {fa fb : Env → R D} {σ : L2.St} {H : Hp} {Q : VK} (h : tO E W (e2 g fa fb) σ H Q) : tOp r (tV E W fa) (tV E W fb) σ H Q := by
  obtain ⟨F, ρ, s, q⟩ := h
  refine ⟨F, ρ, s, Res.mono q.bind (fun x _ q F1 H1 v A t1 r1 => ?_) fun c _ z F' H' t => z F' H' t⟩
  refine ⟨F1, ρ, s.tr t1, Res.mono q.bind (fun y _ q F2 H2 w B t2 r2 => ?_) fun c _ z F' H' t => z F' H' (t1.trans t)⟩
  obtain ⟨d, e, p⟩ := q.opt
  exact hg F2 H2 x y v w A B Q d t2.fh (r1.tr t2) r2 e (GOk.back (F := F) (H := H) (F1 := F2) (H1 := H2) p (t1.trans t2))
theorem eo_op {a b : Expr} {op : Operator} {r : R2} {g : D → D → Option D} {fa fb : Env → R D} {pos : Pos} (ho : OpR X (binaryOp op) r) (hg : Says2 E r g) (ha : EV X E W a fa) (hb : EV X E W b fb) : EO X E W (.BinOp a op b pos) (e2 g fa fb) :=
  ⟨pe_mono (pe_op ho ha.pe hb.pe) fun _ _ _ h => says2 hg h⟩
end
end Dv
end
section
set_option maxRecDepth 100000
set_option maxHeartbeats 1000000
namespace Dv
open PySem PySem.Spec PyProof.Rows L2

section
variable {X : Cx} {E : En} {W : WX}
/-! ### constants and names -/
def eC (d : D) : Env → R D := fun _ => .ok d
@[simp] theorem eC_eq (d : D) (ρ : Env) : eC d ρ = .ok d := rfl
theorem eo_c {e : Expr} {v : V} {d : D} (h : PE X e (tC v)) (r : ∀ F H, Rp E.k F H d v []) : EO X E W e (eC d) :=
  ⟨pe_mono h fun σ H Q ⟨F, ρ, s, q⟩ => GOk.scal (E := E) s.fh (show GOk E F H Q d from q) r⟩
theorem eo_int {i : Int} {j : Nat} {pos : Pos} : EO X E W (.Constant (.int i) j pos) (eC (.int i)) := eo_c pe_int fun _ _ => ⟨rfl, rfl⟩
theorem eo_bl {i : Bool} {j : Nat} {pos : Pos} : EO X E W (.Constant (.bool i) j pos) (eC (.bl i)) := eo_c pe_bl fun _ _ => ⟨rfl, rfl⟩
theorem eo_non {j : Nat} {pos : Pos} : EO X E W (.Constant .none j pos) (eC .non) := eo_c pe_non fun _ _ => ⟨rfl, rfl⟩
theorem eo_str {i : Str} {j : Nat} {pos : Pos} : EO X E W (.Constant (.str i) j pos) (eC (.str i)) := eo_c pe_str fun _ _ => ⟨rfl, rfl⟩
/-- a module's constant -/
theorem eo_glob {x : Str} {v : V} {u : Value} {d : D} {pos : Pos} (hg : Gl X x) (hm : X.mg x = some u) (r : RelV v u) (rp : ∀ F H, Rp E.k F H d v []) (hd : (x == ("__debug__" : Str)) = false := by decide) : EO X E W (.Name x pos) (eC d) := eo_c (pe_glob hg hm r hd) rp
def eVar (i : Nat) : Env → R D := fun ρ => R.opt (ρ[i]?.getD none)
@[simp] theorem eVar_eq (i : Nat) (ρ : Env) : eVar i ρ = R.opt (ρ[i]?.getD none) := rfl
theorem ev_var {e : Expr} {i : Nat} (h : PE X e (tVar i)) : EV X E W e (eVar i) := by
  refine ⟨pe_mono h fun σ H Q ⟨F, ρ, s, q⟩ => ?_⟩
  obtain ⟨d, e, q⟩ := Res.opt q
  obtain ⟨fp, sl⟩ := s.sl
  obtain ⟨v, ev, r⟩ := sl.rp i d (some_some e)
  exact ⟨v, ev, q F H v _ (Tr.refl s.fh) r⟩

/-! ### one operand -/
def e1 (g : D → Option D) (fa : Env → R D) : Env → R D := fun ρ => (fa ρ).bind fun x => R.opt (g x)
@[simp] theorem e1_eq (g : D → Option D) (fa : Env → R D) (ρ : Env) : e1 g fa ρ = (fa ρ).bind fun x => R.opt (g x) := rfl
def Says1 (E : En) (r : V → Hp → VK → Prop) (g : D → Option D) : Prop := ∀ F H x v A Q d, Ex F H → Rp E.k F H x v A → g x = some d → GOk E F H Q d → r v H Q
theorem says1 {r : V → Hp → VK → Prop} {g : D → Option D} (hg : Says1 E r g) {fa : Env → R D} {σ : L2.St} {H : Hp} {Q : VK} (h : tO E W (e1 g fa) σ H Q) : tUn r (tV E W fa) σ H Q := by
  obtain ⟨F, ρ, s, q⟩ := h
  refine ⟨F, ρ, s, Res.mono q.bind (fun x _ q F1 H1 v A t1 r1 => ?_) fun c _ z F' H' t => z F' H' t⟩
  obtain ⟨d, e, p⟩ := q.opt
  exact hg F1 H1 x v A Q d t1.fh r1 e (GOk.back (F := F) (H := H) (F1 := F1) (H1 := H1) p t1)
theorem eo_un {a : Expr} {op : UnaryOp} {r : V → Hp → VK → Prop} {g : D → Option D} {fa : Env → R D} {pos : Pos} (ho : UnR X (unaryOp op) r) (hg : Says1 E r g) (ha : EV X E W a fa) : EO X E W (.UnaryOp op a pos) (e1 g fa) :=
  ⟨pe_mono (pe_un ho ha.pe) fun _ _ _ h => says1 hg h⟩
def gNeg : D → Option D
  | .int i => some (.int (-i))
  | _ => none
@[simp] theorem gNeg_int (i : Int) : gNeg (.int i) = some (.int (-i)) := rfl
theorem says_neg : Says1 E (rU fun i => .int (-i)) gNeg := by
  intro F H x v A Q d fh rx e g
  cases x with
  | int i =>
    cases e
    exact ⟨i, rx.1, g.scal fh fun _ _ => ⟨rfl, rfl⟩⟩
  | _ => cases e
theorem eo_neg {a : Expr} {fa : Env → R D} {pos : Pos} (ha : EV X E W a fa) : EO X E W (.UnaryOp .USub a pos) (e1 gNeg fa) := eo_un un_neg says_neg ha

/-! ### arithmetic -/
/-- two ints under a condition -/
def gI (c : Int → Int → Bool) (f : Int → Int → Int) : D → D → Option D
  | .int i, .int j => if c i j = true then some (.int (f i j)) else none
  | _, _ => none
@[simp] theorem gI_int (c : Int → Int → Bool) (f : Int → Int → Int) (i j : Int) : gI c f (.int i) (.int j) = if c i j = true then some (.int (f i j)) else none := rfl
theorem says_I {C : Int → Int → Prop} {c : Int → Int → Bool} {f : Int → Int → Int} (hc : ∀ i j, c i j = true → C i j) : Says2 E (rI C fun i j => .int (f i j)) (gI c f) := by
  intro F H x y v w A B Q d fh rx ry e g
  cases x with
  | int i =>
    cases y with
    | int j =>
      by_cases z : c i j = true
      · have e' : (if c i j = true then some (D.int (f i j)) else none) = some d := e
        rw [if_pos z] at e'
        cases e'
        exact ⟨i, j, rx.1, ry.1, hc i j z, g.scal fh fun _ _ => ⟨rfl, rfl⟩⟩
      · have e' : (if c i j = true then some (D.int (f i j)) else none) = some d := e
        rw [if_neg z] at e'
        cases e'
    | _ => cases e
  | _ => cases e
def gI0 (f : Int → Int → Int) : D → D → Option D
  | .int i, .int j => some (.int (f i j))
  | _, _ => none
@[simp] theorem gI0_int (f : Int → Int → Int) (i j : Int) : gI0 f (.int i) (.int j) = some (.int (f i j)) := rfl
theorem says_I0 {f : Int → Int → Int} : Says2 E (rI0 fun i j => .int (f i j)) (gI0 f) := by
  intro F H x y v w A B Q d fh rx ry e g
  cases x with
  | int i =>
    cases y with
    | int j =>
      cases e
      exact ⟨i, j, rx.1, ry.1, g.scal fh fun _ _ => ⟨rfl, rfl⟩⟩
    | _ => cases e
  | _ => cases e
abbrev gSub := gI0 fun i j => i - j
abbrev gAndB := gI0 fun i j => Builtin.bitAnd i j
abbrev gOrB := gI0 fun i j => Builtin.bitOr i j
abbrev gXorB := gI0 fun i j => Builtin.bitXor i j
/-! bounds, said by name: no great literal meets a name of a number -/
/-- below 2^64 -/
def W64 (i : Int) : Prop := -18446744073709551616 < i ∧ i < 18446744073709551616
noncomputable instance (i : Int) : Decidable (W64 i) := Classical.propDecidable _
theorem w64 {i : Int} (h1 : -18446744073709551616 < i) (h2 : i < 18446744073709551616) : W64 i := ⟨h1, h2⟩
@[simp] theorem w64_lit (n : Nat) (h : n < 18446744073709551616) : W64 (no_index (OfNat.ofNat n)) := by
  show -18446744073709551616 < (n : Int) ∧ (n : Int) < 18446744073709551616
  omega
@[simp] theorem w64_neg (n : Nat) (h : n < 18446744073709551616) : W64 (-(no_index (OfNat.ofNat n))) := by
  show -18446744073709551616 < -(n : Int) ∧ -(n : Int) < 18446744073709551616
  omega
/-- below 2^62 -/
def W62 (i : Int) : Prop := -4611686018427387904 ≤ i ∧ i < 4611686018427387904
noncomputable instance (i : Int) : Decidable (W62 i) := Classical.propDecidable _
theorem w62 {i : Int} (h1 : -4611686018427387904 ≤ i) (h2 : i < 4611686018427387904) : W62 i := ⟨h1, h2⟩
@[simp] theorem w62_lit (n : Nat) (h : n < 4611686018427387904) : W62 (no_index (OfNat.ofNat n)) := by
  show -4611686018427387904 ≤ (n : Int) ∧ (n : Int) < 4611686018427387904
  omega
@[simp] theorem w62_neg (n : Nat) (h : n < 4611686018427387904) : W62 (-(no_index (OfNat.ofNat n))) := by
  show -4611686018427387904 ≤ -(n : Int) ∧ -(n : Int) < 4611686018427387904
  omega
/-- a divisor for // -/
def DvOk (j : Int) : Prop := 0 < j ∧ j < 1073741824
noncomputable instance (i : Int) : Decidable (DvOk i) := Classical.propDecidable _
theorem dvOk {i : Int} (h1 : 0 < i) (h2 : i < 1073741824) : DvOk i := ⟨h1, h2⟩
@[simp] theorem dvOk_lit (n : Nat) (h : n < 1073741824) (h0 : 0 < n) : DvOk (no_index (OfNat.ofNat n)) := by
  show 0 < (n : Int) ∧ (n : Int) < 1073741824
  omega
/-- i ** j, i << j -/
def PwOk (i j : Int) : Prop := 0 ≤ j ∧ j ≤ 1000000 ∧ i.natAbs < 18446744073709551616
noncomputable instance (i j : Int) : Decidable (PwOk i j) := Classical.propDecidable _
theorem pwOk {i j : Int} (h1 : 0 ≤ j) (h2 : j ≤ 1000000) (h3 : -18446744073709551616 < i) (h4 : i < 18446744073709551616) : PwOk i j := ⟨h1, h2, by omega⟩
@[simp] theorem pwOk_lit (n m : Nat) (h : n < 18446744073709551616) (h0 : m ≤ 1000000) : PwOk (no_index (OfNat.ofNat n)) (no_index (OfNat.ofNat m)) := by
  show 0 ≤ (m : Int) ∧ (m : Int) ≤ 1000000 ∧ (n : Int).natAbs < 18446744073709551616
  omega
/-- a list of n things j times -/
def RpOk (n : Nat) (j : Int) : Prop := -16777216 ≤ j ∧ j ≤ 16777216 ∧ n * j.toNat ≤ 16777216
noncomputable instance (n : Nat) (j : Int) : Decidable (RpOk n j) := Classical.propDecidable _
theorem rpOk {n : Nat} {j : Int} (h1 : -16777216 ≤ j) (h2 : j ≤ 16777216) (h3 : n * j.toNat ≤ 16777216) : RpOk n j := ⟨h1, h2, h3⟩
@[simp] theorem rpOk_lit (n m : Nat) (h : n * m ≤ 16777216) (h2 : m ≤ 16777216) : RpOk n (no_index (OfNat.ofNat m)) := by
  show -16777216 ≤ (m : Int) ∧ (m : Int) ≤ 16777216 ∧ n * m ≤ 16777216
  omega
/-- a factor below 2^64 -/
noncomputable def cMul (i j : Int) : Bool := decide (W64 i ∨ W64 j)
noncomputable def cDiv (_ j : Int) : Bool := decide (DvOk j)
def cMod (_ j : Int) : Bool := decide (0 < j)
noncomputable def cPow (i j : Int) : Bool := decide (PwOk i j)
def cShr (_ j : Int) : Bool := decide (0 ≤ j)
@[simp] theorem cMul_eq (i j : Int) : (cMul i j = true) = (W64 i ∨ W64 j) := by simp [cMul]
@[simp] theorem cDiv_eq (i j : Int) : (cDiv i j = true) = DvOk j := by simp [cDiv]
@[simp] theorem cMod_eq (i j : Int) : (cMod i j = true) = (0 < j) := by simp [cMod]
@[simp] theorem cPow_eq (i j : Int) : (cPow i j = true) = PwOk i j := by simp [cPow]
@[simp] theorem cShr_eq (i j : Int) : (cShr i j = true) = (0 ≤ j) := by simp [cShr]
noncomputable abbrev gMulI := gI cMul fun i j => i * j
noncomputable abbrev gDiv := gI cDiv fun i j => i / j
abbrev gMod := gI cMod fun i j => i % j
noncomputable abbrev gPow := gI cPow fun i j => i ^ j.toNat
noncomputable abbrev gShl := gI cPow fun i j => i * 2 ^ j.toNat
abbrev gShr := gI cShr fun i j => i / 2 ^ j.toNat
section
variable {a b : Expr} {fa fb : Env → R D} {pos : Pos}
theorem eo_sub (ha : EV X E W a fa) (hb : EV X E W b fb) : EO X E W (.BinOp a .Sub b pos) (e2 gSub fa fb) := eo_op op_sub says_I0 ha hb
theorem eo_band (ha : EV X E W a fa) (hb : EV X E W b fb) : EO X E W (.BinOp a .BitAnd b pos) (e2 gAndB fa fb) := eo_op op_and says_I0 ha hb
theorem eo_bor (ha : EV X E W a fa) (hb : EV X E W b fb) : EO X E W (.BinOp a .BitOr b pos) (e2 gOrB fa fb) := eo_op op_or says_I0 ha hb
theorem eo_bxor (ha : EV X E W a fa) (hb : EV X E W b fb) : EO X E W (.BinOp a .BitXor b pos) (e2 gXorB fa fb) := eo_op op_xor says_I0 ha hb
theorem eo_mulI (ha : EV X E W a fa) (hb : EV X E W b fb) : EO X E W (.BinOp a .Mult b pos) (e2 gMulI fa fb) := eo_op op_mul (says_I fun i j h => by
  rw [cMul_eq] at h
  exact h) ha hb
theorem eo_div (ha : EV X E W a fa) (hb : EV X E W b fb) : EO X E W (.BinOp a .FloorDiv b pos) (e2 gDiv fa fb) := eo_op op_fdiv (says_I fun i j h => by
  rw [cDiv_eq] at h
  exact h) ha hb
theorem eo_mod (ha : EV X E W a fa) (hb : EV X E W b fb) : EO X E W (.BinOp a .Mod b pos) (e2 gMod fa fb) := eo_op op_mod (says_I fun i j h => by
  rw [cMod_eq] at h
  exact h) ha hb
theorem eo_pow (ha : EV X E W a fa) (hb : EV X E W b fb) : EO X E W (.BinOp a .Pow b pos) (e2 gPow fa fb) := eo_op op_pow (says_I fun i j h => by
  rw [cPow_eq] at h
  exact h) ha hb
theorem eo_shl (ha : EV X E W a fa) (hb : EV X E W b fb) : EO X E W (.BinOp a .LShift b pos) (e2 gShl fa fb) := eo_op op_shl (says_I fun i j h => by
  rw [cPow_eq] at h
  exact h) ha hb
theorem eo_shr (ha : EV X E W a fa) (hb : EV X E W b fb) : EO X E W (.BinOp a .RShift b pos) (e2 gShr fa fb) := eo_op op_shr (says_I fun i j h => by
  rw [cShr_eq] at h
  exact h) ha hb
end

/-! ### + of ints, texts, lists -/
/-- the items of a list, whether it is owned or not, if they are pure -/
theorem Rp.lstR {k : Kx} {F H : Hp} {o : Bool} {xs : List D} {v : V} {A : List Addr} (fh : Ex F H) (p : D.pureL xs = true) (h : Rp k F H (.lst o xs) v A) : ∃ a vs, v = .ref a ∧ H a = some (.lst vs) ∧ RpL k F H xs vs [] := by
  obtain ⟨a, vs, B, e, r, h1, h2⟩ := h
  refine ⟨a, vs, e, ?_, RpL.pure p (.refl _) r⟩
  cases o with
  | false => exact fh _ _ (h1 rfl).1
  | true => exact (h2 rfl).2.2
theorem Rp.lstW {k : Kx} {F H : Hp} {o : Bool} {xs : List D} {v : V} {A : List Addr} (fh : Ex F H) (h : Rp k F H (.lst o xs) v A) : ∃ a vs B, v = .ref a ∧ H a = some (.lst vs) ∧ RpL k F H xs vs B := by
  obtain ⟨a, vs, B, e, r, h1, h2⟩ := h
  refine ⟨a, vs, B, e, ?_, r⟩
  cases o with
  | false => exact fh _ _ (h1 rfl).1
  | true => exact (h2 rfl).2.2
def big : Nat := 16777216
theorem big_le {n : Nat} (h : n ≤ 16777216) : n ≤ sizeLine := by rw [sizeLine_eq]; exact h
def gAdd : D → D → Option D
  | .int i, .int j => some (.int (i + j))
  | .int i, .bl j => some (.int (i + b2i j))
  | .str x, .str y => if x.length + y.length ≤ 16777216 then some (.str (x ++ y)) else none
  | .lst _ xs, .lst _ ys => if D.pureL xs = true ∧ D.pureL ys = true ∧ xs.length + ys.length ≤ 16777216 then some (.lst true (xs ++ ys)) else none
  | _, _ => none
@[simp] theorem gAdd_int (i j : Int) : gAdd (.int i) (.int j) = some (.int (i + j)) := rfl
@[simp] theorem gAdd_bl (i : Int) (j : Bool) : gAdd (.int i) (.bl j) = some (.int (i + b2i j)) := rfl
@[simp] theorem gAdd_str (x y : Str) : gAdd (.str x) (.str y) = if x.length + y.length ≤ 16777216 then some (.str (x ++ y)) else none := rfl
@[simp] theorem gAdd_lst (o p : Bool) (xs ys : List D) : gAdd (.lst o xs) (.lst p ys) = if D.pureL xs = true ∧ D.pureL ys = true ∧ xs.length + ys.length ≤ 16777216 then some (.lst true (xs ++ ys)) else none := rfl
def rAddA : R2 := fun x y H Q => (rI0 (fun i j => .int (i + j)) x y H Q ∨ (∃ i k, x = .int i ∧ y = .bl k ∧ Q (.int (i + b2i k)) H)) ∨ (∃ i j, x = .str i ∧ y = .str j ∧ i.length + j.length ≤ sizeLine ∧ Q (.str (i ++ j)) H) ∨ rCat x y H Q
theorem op_addA : OpR X (binaryOp .Add) rAddA := (op_add.or op_add_ib).or (op_add_str.or op_cat)
theorem if_some {α : Type} {c : Prop} [Decidable c] {a b : α} (h : (if c then some a else none) = some b) : c ∧ a = b := by
  by_cases z : c
  · rw [if_pos z] at h
    exact ⟨z, Option.some.inj h⟩
  · rw [if_neg z] at h
    cases h
theorem says_add : Says2 E rAddA gAdd := by
  intro F H x y v w A B Q d fh rx ry e g
  cases x with
  | int i =>
    cases y with
    | int j => cases e; exact .inl (.inl ⟨i, j, rx.1, ry.1, g.scal fh fun _ _ => ⟨rfl, rfl⟩⟩)
    | bl j => cases e; exact .inl (.inr ⟨i, j, rx.1, ry.1, g.scal fh fun _ _ => ⟨rfl, rfl⟩⟩)
    | _ => cases e
  | str i =>
    cases y with
    | str j =>
      obtain ⟨z, e⟩ := if_some e
      cases e
      exact .inr (.inl ⟨i, j, rx.1, ry.1, big_le z, g.scal fh fun _ _ => ⟨rfl, rfl⟩⟩)
    | _ => cases e
  | lst o xs =>
    cases y with
    | lst o' ys =>
      obtain ⟨z, e⟩ := if_some e
      cases e
      obtain ⟨a, vs, rfl, h1, r1⟩ := Rp.lstR fh z.1 rx
      obtain ⟨b, ws, rfl, h2, r2⟩ := Rp.lstR fh z.2.1 ry
      refine .inr (.inr ⟨a, b, vs, ws, rfl, rfl, h1, h2, big_le (by rw [← r1.len, ← r2.len]; exact z.2.2), fun p hp => ?_⟩)
      exact g.lst fh hp (RpL.append r1 r2)
    | _ => cases e
  | _ => cases e
theorem eo_add {a b : Expr} {fa fb : Env → R D} {pos : Pos} (ha : EV X E W a fa) (hb : EV X E W b fb) : EO X E W (.BinOp a .Add b pos) (e2 gAdd fa fb) := eo_op op_addA says_add ha hb

/-! ### list * int -/
theorem RpL.rep {k : Kx} {F H : Hp} {ds : List D} {vs : List V} (h : RpL k F H ds vs []) : ∀ n : Nat, RpL k F H (List.replicate n ds).flatten (List.replicate n vs).flatten []
  | 0 => ⟨rfl, rfl⟩
  | n + 1 => by
    rw [List.replicate_succ, List.replicate_succ, List.flatten_cons, List.flatten_cons]
    exact RpL.append h (RpL.rep h n)
noncomputable def gMul : D → D → Option D
  | .int i, .int j => if W64 i ∨ W64 j then some (.int (i * j)) else none
  | .lst _ xs, .int j => if D.pureL xs = true ∧ RpOk xs.length j then some (.lst true (List.replicate j.toNat xs).flatten) else none
  | _, _ => none
@[simp] theorem gMul_int (i j : Int) : gMul (.int i) (.int j) = if W64 i ∨ W64 j then some (.int (i * j)) else none := rfl
@[simp] theorem gMul_lst (o : Bool) (xs : List D) (j : Int) : gMul (.lst o xs) (.int j) = if D.pureL xs = true ∧ RpOk xs.length j then some (.lst true (List.replicate j.toNat xs).flatten) else none := rfl
def rMulA : R2 := fun x y H Q => rI CMul (fun i j => .int (i * j)) x y H Q ∨ rRep x y H Q
theorem op_mulA : OpR X (binaryOp .Mult) rMulA := op_mul.or op_rep
theorem says_mul : Says2 E rMulA gMul := by
  intro F H x y v w A B Q d fh rx ry e g
  cases x with
  | int i =>
    cases y with
    | int j =>
      obtain ⟨z, e⟩ := if_some e
      cases e
      exact .inl ⟨i, j, rx.1, ry.1, z, g.scal fh fun _ _ => ⟨rfl, rfl⟩⟩
    | _ => cases e
  | lst o xs =>
    cases y with
    | int j =>
      obtain ⟨z, e⟩ := if_some e
      cases e
      obtain ⟨a, vs, rfl, h1, r1⟩ := Rp.lstR fh z.1 rx
      refine .inr ⟨a, j, vs, rfl, ry.1, h1, by have := z.2.1; omega, by have := z.2.2.1; omega, big_le (by rw [← r1.len]; exact z.2.2.2), fun p hp => ?_⟩
      exact g.lst fh hp (RpL.rep r1 _)
    | _ => cases e
  | _ => cases e
theorem eo_mul {a b : Expr} {fa fb : Env → R D} {pos : Pos} (ha : EV X E W a fa) (hb : EV X E W b fb) : EO X E W (.BinOp a .Mult b pos) (e2 gMul fa fb) := eo_op op_mulA says_mul ha hb
end
end Dv
end
section
set_option maxRecDepth 100000
set_option maxHeartbeats 1000000
namespace Dv
open PySem PySem.Spec PyProof.Rows L2

/-! ### data as the library compares it -/
mutual
def D.toP : D → PyData
  | .non => .none | .bl b => .bool b | .int i => .int i | .str x => .str x
  | .tup xs => .tuple (D.toPL xs)
  | .lst _ xs => .list (D.toPL xs)
  | .scr _ => .none
  | .dic _ _ _ => .none
  | .dit _ _ _ => .none
  | .ins _ _ _ => .none
def D.toPL : List D → List PyData
  | [] => []
  | x :: xs => x.toP :: D.toPL xs
end
mutual
/-- may be compared as a whole: no dict, no instance, nested at most n deep -/
def D.lay : Nat → D → Bool
  | _, .non => true | _, .bl _ => true | _, .int _ => true | _, .str x => PyData.strOk x
  | n + 1, .tup xs => D.layL n xs
  | n + 1, .lst _ xs => D.layL n xs
  | 0, .tup _ => false
  | 0, .lst _ _ => false
  | _, .scr _ => false
  | _, .dic _ _ _ => false
  | _, .dit _ _ _ => false
  | _, .ins _ _ _ => false
def D.layL : Nat → List D → Bool
  | _, [] => true
  | n, x :: xs => x.lay n && D.layL n xs
end
mutual
theorem D.lay_can : ∀ (n : Nat) (d : D), d.lay n = true → d.toP.canLay0 = true ∧ d.toP.depth ≤ n
  | _, .non, _ => by simp [D.toP, PyData.canLay0, PyData.depth]
  | _, .bl _, _ => by simp [D.toP, PyData.canLay0, PyData.depth]
  | _, .int _, _ => by simp [D.toP, PyData.canLay0, PyData.depth]
  | _, .str x, h => by simpa [D.toP, PyData.canLay0, PyData.depth, D.lay] using h
  | n + 1, .tup xs, h => by
    have q := D.layL_can n xs (by simpa [D.lay] using h)
    simp only [D.toP, PyData.canLay0, PyData.depth]
    exact ⟨q.1, by omega⟩
  | n + 1, .lst _ xs, h => by
    have q := D.layL_can n xs (by simpa [D.lay] using h)
    simp only [D.toP, PyData.canLay0, PyData.depth]
    exact ⟨q.1, by omega⟩
  | 0, .tup _, h => absurd h (by simp [D.lay])
  | 0, .lst _ _, h => absurd h (by simp [D.lay])
  | _, .scr _, h => absurd h (by simp [D.lay])
  | _, .dic _ _ _, h => absurd h (by simp [D.lay])
  | _, .dit _ _ _, h => absurd h (by simp [D.lay])
  | _, .ins _ _ _, h => absurd h (by simp [D.lay])
theorem D.layL_can : ∀ (n : Nat) (ds : List D), D.layL n ds = true → PyData.canLayAll0 (D.toPL ds) = true ∧ PyData.depthAll (D.toPL ds) ≤ n
  | _, [], _ => by simp [D.toPL, PyData.canLayAll0, PyData.depthAll]
  | n, d :: ds, h => by
    have h' : d.lay n = true ∧ D.layL n ds = true := by simpa [D.layL] using h
    have q1 := D.lay_can n d h'.1
    have q2 := D.layL_can n ds h'.2
    simp only [D.toPL, PyData.canLayAll0, PyData.depthAll, q1.1, q2.1, Bool.and_self]
    exact ⟨trivial, by omega⟩
end
theorem D.lay_shaped {d : D} (h : d.lay 60 = true) : SeqAt.shaped d.toP = true := by
  obtain ⟨h1, h2⟩ := D.lay_can 60 d h
  unfold SeqAt.shaped
  rw [h1, decide_eq_true (show d.toP.depth ≤ 64 by omega)]
  rfl
section
variable {k : Kx} {F H : Hp}
mutual
theorem Rp.dp (fh : Ex F H) : ∀ (n : Nat) (d : D) (v : V) (A : List Addr), d.lay n = true → Rp k F H d v A → Dp k.K H v d.toP
  | _, .non, _, _, _, h => by rw [h.1]; exact .non
  | _, .bl _, _, _, _, h => by rw [h.1]; exact .bl _
  | _, .int _, _, _, _, h => by rw [h.1]; exact .int _
  | _, .str _, _, _, _, h => by rw [h.1]; exact .str _
  | n + 1, .tup ds, v, A, l, h => by
    obtain ⟨a, xs, rfl, s, r⟩ := h
    exact .tup (ex_t fh s) (RpL.dp fh n ds xs A (by simpa [D.lay] using l) r)
  | n + 1, .lst o ds, v, A, l, h => by
    obtain ⟨a, xs, B, rfl, s, r⟩ := Rp.lstW fh h
    exact .lst (.inl (.inl s)) (RpL.dp fh n ds xs B (by simpa [D.lay] using l) r)
  | 0, .tup _, _, _, h, _ => absurd h (by simp [D.lay])
  | 0, .lst _ _, _, _, h, _ => absurd h (by simp [D.lay])
  | _, .scr _, _, _, h, _ => absurd h (by simp [D.lay])
  | _, .dic _ _ _, _, _, h, _ => absurd h (by simp [D.lay])
  | _, .dit _ _ _, _, _, h, _ => absurd h (by simp [D.lay])
  | _, .ins _ _ _, _, _, h, _ => absurd h (by simp [D.lay])
theorem RpL.dp (fh : Ex F H) : ∀ (n : Nat) (ds : List D) (vs : List V) (A : List Addr), D.layL n ds = true → RpL k F H ds vs A → DpAll k.K H vs (D.toPL ds)
  | _, [], _, _, _, h => by rw [h.1]; exact .nil
  | n, d :: ds, xs, A, l, h => by
    obtain ⟨v, vs, B, C, e1, e2, h1, h2⟩ := h
    have l' : d.lay n = true ∧ D.layL n ds = true := by simpa [D.layL] using l
    rw [e1]
    exact .cons (Rp.dp fh n d v B l'.1 h1) (RpL.dp fh n ds vs C l'.2 h2)
end
end

/-- data is equal as Python says -/
def D.eqv (x y : D) : Bool := PyData.eqv x.toP y.toP
def gEq : D → D → Option D
  | .str x, .str y => some (.bl (x == y))
  | .str _, .non => some (.bl false)
  | .non, .str _ => some (.bl false)
  | x, y => if x.lay 60 = true ∧ y.lay 60 = true then some (.bl (x.eqv y)) else none
def gNe : D → D → Option D
  | .str x, .str y => some (.bl (!(x == y)))
  | x, y => if x.lay 60 = true ∧ y.lay 60 = true then some (.bl (!(x.eqv y))) else none
@[simp] theorem gEq_str (x y : Str) : gEq (.str x) (.str y) = some (.bl (x == y)) := rfl
@[simp] theorem gNe_str (x y : Str) : gNe (.str x) (.str y) = some (.bl (!(x == y))) := rfl
@[simp] theorem gEq_int (i j : Int) : gEq (.int i) (.int j) = some (.bl (i == j)) := by simp [gEq, D.lay, D.eqv, D.toP, PyData.eqv]
@[simp] theorem gNe_int (i j : Int) : gNe (.int i) (.int j) = some (.bl (!(i == j))) := by simp [gNe, D.lay, D.eqv, D.toP, PyData.eqv]
@[simp] theorem gEq_bl (i j : Bool) : gEq (.bl i) (.bl j) = some (.bl (i == j)) := by simp [gEq, D.lay, D.eqv, D.toP, PyData.eqv]
@[simp] theorem gNe_bl (i j : Bool) : gNe (.bl i) (.bl j) = some (.bl (!(i == j))) := by simp [gNe, D.lay, D.eqv, D.toP, PyData.eqv]
section
variable {X : Cx} {E : En} {W : WX}
def rEqA (K : PySem.W.Frag) : R2 := fun x y H Q => rEq x y H Q ∨ rEqD K x y H Q
def rNeA (K : PySem.W.Frag) : R2 := fun x y H Q => rNe x y H Q ∨ rNeD K x y H Q
theorem says_eqD {x y : D} {F H : Hp} {v w : V} {A B : List Addr} {Q : VK} {b : D} (fh : Ex F H) (rx : Rp E.k F H x v A) (ry : Rp E.k F H y w B) (e : (if x.lay 60 = true ∧ y.lay 60 = true then some (D.bl (x.eqv y)) else none) = some b) (g : GOk E F H Q b) : rEqA E.k.K v w H Q := by
  obtain ⟨z, e⟩ := if_some e
  cases e
  exact .inr ⟨x.toP, y.toP, Rp.dp fh 60 x v A z.1 rx, Rp.dp fh 60 y w B z.2 ry, D.lay_shaped z.1, D.lay_shaped z.2, g.scal fh fun _ _ => ⟨rfl, rfl⟩⟩
theorem says_neD {x y : D} {F H : Hp} {v w : V} {A B : List Addr} {Q : VK} {b : D} (fh : Ex F H) (rx : Rp E.k F H x v A) (ry : Rp E.k F H y w B) (e : (if x.lay 60 = true ∧ y.lay 60 = true then some (D.bl (!(x.eqv y))) else none) = some b) (g : GOk E F H Q b) : rNeA E.k.K v w H Q := by
  obtain ⟨z, e⟩ := if_some e
  cases e
  exact .inr ⟨x.toP, y.toP, Rp.dp fh 60 x v A z.1 rx, Rp.dp fh 60 y w B z.2 ry, D.lay_shaped z.1, D.lay_shaped z.2, g.scal fh fun _ _ => ⟨rfl, rfl⟩⟩
theorem says_eq : Says2 E (rEqA E.k.K) gEq := by
  intro F H x y v w A B Q b fh rx ry e g
  unfold gEq at e
  split at e
  · cases e
    rw [rx.1, ry.1]
    exact .inl ⟨rfl, by rw [dec_str]; exact g.scal fh fun _ _ => ⟨rfl, rfl⟩⟩
  · cases e
    rw [rx.1, ry.1]
    exact .inl ⟨rfl, g.scal (d := .bl false) fh fun _ _ => ⟨by simp, rfl⟩⟩
  · cases e
    rw [rx.1, ry.1]
    exact .inl ⟨rfl, g.scal (d := .bl false) fh fun _ _ => ⟨by simp, rfl⟩⟩
  · exact says_eqD fh rx ry e g
theorem says_ne : Says2 E (rNeA E.k.K) gNe := by
  intro F H x y v w A B Q b fh rx ry e g
  unfold gNe at e
  split at e
  · cases e
    rw [rx.1, ry.1]
    exact .inl ⟨rfl, by rw [dec_str]; exact g.scal fh fun _ _ => ⟨rfl, rfl⟩⟩
  · exact says_neD fh rx ry e g
theorem op_eqA (hu : X.A.units + 64 < cLine) : OpR X (compareOp .Eq) (rEqA X.K) := op_eq.or (op_eqD hu)
theorem op_neA (hu : X.A.units + 64 < cLine) : OpR X (compareOp .NotEq) (rNeA X.K) := op_ne.or (op_neD hu)

/-! ### comparisons as values -/
theorem eo_cmp {a b : Expr} {op : CmpOp} {r : R2} {g : D → D → Option D} {fa fb : Env → R D} {pos : Pos} (ho : OpR X (compareOp op) r) (hg : Says2 E r g) (hm : behindInMarks op b = false) (ha : EV X E W a fa) (hb : EV X E W b fb) : EO X E W (.Compare a [op] [b] pos) (e2 g fa fb) :=
  ⟨pe_mono (pe_cmpR ho ha.pe hb.pe hm) fun _ _ _ h => says2 hg h⟩
/-- an order of two ints -/
def gCmp (c : Int → Int → Bool) : D → D → Option D
  | .int i, .int j => some (.bl (c i j))
  | _, _ => none
@[simp] theorem gCmp_int (c : Int → Int → Bool) (i j : Int) : gCmp c (.int i) (.int j) = some (.bl (c i j)) := rfl
theorem says_cmp {c : Int → Int → Bool} : Says2 E (rI0 fun i j => .bl (c i j)) (gCmp c) := by
  intro F H x y v w A B Q d fh rx ry e g
  cases x with
  | int i =>
    cases y with
    | int j =>
      cases e
      exact ⟨i, j, rx.1, ry.1, g.scal fh fun _ _ => ⟨rfl, rfl⟩⟩
    | _ => cases e
  | _ => cases e
abbrev gLt := gCmp fun i j => decide (i < j)
abbrev gLe := gCmp fun i j => decide (i ≤ j)
abbrev gGt := gCmp fun i j => decide (j < i)
abbrev gGe := gCmp fun i j => decide (j ≤ i)
section
variable {a b c : Expr} {fa fb fc : Env → R D} {pos : Pos}
theorem eo_lt (ha : EV X E W a fa) (hb : EV X E W b fb) : EO X E W (.Compare a [.Lt] [b] pos) (e2 gLt fa fb) := eo_cmp op_lt says_cmp (nomark b) ha hb
theorem eo_le (ha : EV X E W a fa) (hb : EV X E W b fb) : EO X E W (.Compare a [.LtE] [b] pos) (e2 gLe fa fb) := eo_cmp op_le says_cmp (nomark b) ha hb
theorem eo_gt (ha : EV X E W a fa) (hb : EV X E W b fb) : EO X E W (.Compare a [.Gt] [b] pos) (e2 gGt fa fb) := eo_cmp op_gt says_cmp (nomark b) ha hb
theorem eo_ge (ha : EV X E W a fa) (hb : EV X E W b fb) : EO X E W (.Compare a [.GtE] [b] pos) (e2 gGe fa fb) := eo_cmp op_ge says_cmp (nomark b) ha hb
theorem eo_eq (hK : E.k.K = X.K) (hu : X.A.units + 64 < cLine) (ha : EV X E W a fa) (hb : EV X E W b fb) : EO X E W (.Compare a [.Eq] [b] pos) (e2 gEq fa fb) := eo_cmp (op_eqA hu) (by rw [← hK]; exact says_eq) (nomark b) ha hb
theorem eo_ne (hK : E.k.K = X.K) (hu : X.A.units + 64 < cLine) (ha : EV X E W a fa) (hb : EV X E W b fb) : EO X E W (.Compare a [.NotEq] [b] pos) (e2 gNe fa fb) := eo_cmp (op_neA hu) (by rw [← hK]; exact says_ne) (nomark b) ha hb
def isNon : D → Bool
  | .non => true
  | _ => false
@[simp] theorem isNon_non : isNon .non = true := rfl
@[simp] theorem isNon_int (i : Int) : isNon (.int i) = false := rfl
@[simp] theorem isNon_bl (i : Bool) : isNon (.bl i) = false := rfl
@[simp] theorem isNon_str (i : Str) : isNon (.str i) = false := rfl
@[simp] theorem isNon_tup (i : List D) : isNon (.tup i) = false := rfl
@[simp] theorem isNon_lst (o : Bool) (i : List D) : isNon (.lst o i) = false := rfl
theorem Rp.non_iff {k : Kx} {F H : Hp} : ∀ {d : D} {v : V} {A : List Addr}, Rp k F H d v A → decide (v = .non) = isNon d
  | .non, _, _, h => by rw [h.1]; rfl
  | .bl _, _, _, h => by rw [h.1]; rfl
  | .int _, _, _, h => by rw [h.1]; rfl
  | .str _, _, _, h => by rw [h.1]; rfl
  | .tup _, _, _, h => by obtain ⟨a, _, e, _⟩ := h; rw [e]; rfl
  | .lst _ _, _, _, h => by obtain ⟨a, _, _, e, _⟩ := h; rw [e]; rfl
  | .scr _, _, _, h => by obtain ⟨a, _, e, _⟩ := h; rw [e]; rfl
  | .dic _ _ _, _, _, h => by obtain ⟨a, _, _, e, _⟩ := h; rw [e]; rfl
  | .dit _ _ _, _, _, h => by obtain ⟨a, _, _, e, _⟩ := h; rw [e]; rfl
  | .ins _ _ _, _, _, h => by obtain ⟨a, _, _, _, e, _⟩ := h; rw [e]; rfl
def gIs : D → D → Option D
  | x, .non => some (.bl (isNon x))
  | _, _ => none
def gIsNot : D → D → Option D
  | x, .non => some (.bl (!isNon x))
  | _, _ => none
@[simp] theorem gIs_eq (x : D) : gIs x .non = some (.bl (isNon x)) := rfl
@[simp] theorem gIsNot_eq (x : D) : gIsNot x .non = some (.bl (!isNon x)) := rfl
theorem eo_is (ha : EV X E W a fa) (hb : EV X E W b fb) : EO X E W (.Compare a [.Is] [b] pos) (e2 gIs fa fb) := by
  refine eo_cmp op_isN ?_ (nomark b) ha hb
  intro F H x y v w A B Q d fh rx ry e g
  cases y with
  | non =>
    cases e
    exact ⟨ry.1, by rw [rx.non_iff]; exact g.scal fh fun _ _ => ⟨rfl, rfl⟩⟩
  | _ => cases e
theorem eo_isNot (ha : EV X E W a fa) (hb : EV X E W b fb) : EO X E W (.Compare a [.IsNot] [b] pos) (e2 gIsNot fa fb) := by
  refine eo_cmp op_notN ?_ (nomark b) ha hb
  intro F H x y v w A B Q d fh rx ry e g
  cases y with
  | non =>
    cases e
    exact ⟨ry.1, by rw [rx.non_iff]; exact g.scal fh fun _ _ => ⟨rfl, rfl⟩⟩
  | _ => cases e
/-- a op1 b op2 c -/
def e3 (g g' : D → D → Option D) (fa fb fc : Env → R D) : Env → R D := fun ρ => (fa ρ).bind fun x => (fb ρ).bind fun y => (R.opt (g x y)).bind fun z =>
  match z with
  | .bl true => (fc ρ).bind fun w => R.opt (g' y w)
  | .bl false => .ok (.bl false)
  | _ => .no
theorem eo_chain {op op' : CmpOp} {r r' : R2} {g g' : D → D → Option D} (ho : OpR X (compareOp op) r) (hg : Says2 E r g) (ho' : OpR X (compareOp op') r') (hg' : Says2 E r' g') (hm : lastMarks [op, op'] [b, c] = false) (ha : EV X E W a fa) (hb : EV X E W b fb) (hc : EV X E W c fc) :
    EO X E W (.Compare a [op, op'] [b, c] pos) (e3 g g' fa fb fc) := by
  refine ⟨pe_mono (pe_chain ho ho' ha.pe hb.pe hc.pe hm) fun σ H Q h => ?_⟩
  obtain ⟨F, ρ, s, q⟩ := h
  refine ⟨F, ρ, s, Res.mono q.bind (fun x _ q F1 H1 v A t1 r1 => ?_) fun c _ z F' H' t => z F' H' t⟩
  refine ⟨F1, ρ, s.tr t1, Res.mono q.bind (fun y _ q F2 H2 w B t2 r2 => ?_) fun c _ z F' H' t => z F' H' (t1.trans t)⟩
  obtain ⟨d, e, p⟩ := Res.opt q.bind
  have t12 := t1.trans t2
  refine hg F2 H2 x y v w A B _ d t2.fh (r1.tr t2) r2 e fun F3 H3 v3 A3 t3 r3 n3 u3 => ?_
  cases d with
  | bl k =>
    refine ⟨k, r3.1, ?_⟩
    cases k with
    | true =>
      rw [if_pos rfl]
      refine ⟨F3, ρ, (s.tr t12).tr t3, Res.mono (Res.bind p) (fun z _ q F4 H4 v4 A4 t4 r4 => ?_) fun c _ z F' H' t => z F' H' ((t12.trans t3).trans t)⟩
      obtain ⟨d', e', p'⟩ := Res.opt q
      have t34 := t3.trans t4
      exact hg' F4 H4 y z w v4 B A4 Q d' t4.fh (r2.tr t34) r4 e' (GOk.back (F := F) (H := H) (F1 := F4) (H1 := H4) p' (t12.trans t34))
    | false =>
      rw [if_neg Bool.false_ne_true]
      exact p F3 H3 (.bl false) [] (t12.trans t3) ⟨rfl, rfl⟩ .nil fun _ z => nomatch z
  | _ => exact (show False from p).elim
end

/-! ### tests -/
def asT : D → Option Bool
  | .non => some false
  | .bl b => some b
  | .int i => some (i != 0)
  | .str x => if x.length ≤ 16777216 then some ((x.length : Int) != 0) else none
  | .lst _ xs => some (!xs.isEmpty)
  | .tup xs => some (!xs.isEmpty)
  | _ => none
def eT (f : Env → R D) : Env → R Bool := fun ρ => (f ρ).bind fun d => R.opt (asT d)
@[simp] theorem eT_eq (f : Env → R D) (ρ : Env) : eT f ρ = (f ρ).bind fun d => R.opt (asT d) := rfl
@[simp] theorem asT_bl (b : Bool) : asT (.bl b) = some b := rfl
@[simp] theorem asT_int (b : Int) : asT (.int b) = some (b != 0) := rfl
@[simp] theorem asT_non : asT .non = some false := rfl
@[simp] theorem asT_lst (o : Bool) (xs : List D) : asT (.lst o xs) = some (!xs.isEmpty) := rfl
@[simp] theorem asT_tup (xs : List D) : asT (.tup xs) = some (!xs.isEmpty) := rfl
theorem isEmpty_len {α β : Type} {xs : List α} {ys : List β} (h : xs.length = ys.length) : xs.isEmpty = ys.isEmpty := by
  cases xs with
  | nil => cases ys with
    | nil => rfl
    | cons _ _ => cases h
  | cons _ _ => cases ys with
    | nil => cases h
    | cons _ _ => rfl
theorem Rp.tru {k : Kx} {F H : Hp} (fh : Ex F H) {d : D} {v : V} {A : List Addr} {b : Bool} (h : Rp k F H d v A) (e : asT d = some b) : TruV k.K v H b := by
  cases d with
  | non => cases e; rw [h.1]; exact rfl
  | bl _ => cases e; rw [h.1]; exact rfl
  | int _ => cases e; rw [h.1]; exact rfl
  | str x =>
    obtain ⟨z, e⟩ := if_some e
    cases e
    rw [h.1]
    exact ⟨big_le z, rfl⟩
  | lst o xs =>
    cases e
    obtain ⟨a, vs, B, rfl, s, r⟩ := Rp.lstW fh h
    exact .inl ⟨vs, .inl (.inl s), by rw [isEmpty_len r.len]⟩
  | tup xs =>
    cases e
    obtain ⟨a, vs, rfl, s, r⟩ := h
    exact .inr (.inl ⟨vs, ex_t fh s, by rw [isEmpty_len r.len]⟩)
  | _ => cases e
theorem et_tru (hK : E.k.K = X.K) {a : Expr} {fa : Env → R D} (ha : EV X E W a fa) (he : ∀ whole, isTrue a X.env whole = (do let v ← whole; standAt a.pos; holding [v] (truthy v)) := by intro _; rfl) : ET X E W a (eT fa) := by
  refine ⟨pt_mono (pt_truth ha.pe he) fun σ H Q h => ?_⟩
  obtain ⟨F, ρ, s, q⟩ := h
  refine ⟨F, ρ, s, Res.mono q.bind (fun x _ q F1 H1 v A t1 r1 => ?_) fun c _ z F' H' t => z F' H' t⟩
  obtain ⟨b, e, p⟩ := Res.opt q
  exact ⟨b, by rw [← hK]; exact r1.tru t1.fh e, p F1 H1 t1⟩
/-- a comparison as a test -/
theorem tT_of {fa : Env → R D} {t : TE} (hb : ∀ ρ d, fa ρ = .ok d → ∃ b, d = .bl b) (h : ∀ σ H Q, tO E W fa σ H Q → t σ H Q) {σ : L2.St} {H : Hp} {Q : Bool → Hp → Prop} (q : tT E W (eT fa) σ H Q) : t σ H fun x H' => ∃ k, x = .bl k ∧ Q k H' := by
  obtain ⟨F, ρ, s, q⟩ := q
  refine h σ H _ ⟨F, ρ, s, Res.mono q.bind (fun x e q F1 H1 v A t1 r1 _ _ => ?_) fun c _ z F' H' t => z F' H' t⟩
  obtain ⟨b, rfl⟩ := hb ρ x e
  exact ⟨b, r1.1, q F1 H1 t1⟩
theorem e2_bl {g : D → D → Option D} (hg : ∀ x y d, g x y = some d → ∃ b, d = .bl b) {fa fb : Env → R D} (ρ : Env) (d : D) (e : e2 g fa fb ρ = .ok d) : ∃ b, d = .bl b := by
  rw [e2_eq] at e
  cases ea : fa ρ with
  | ok x =>
    rw [ea, R.bind_ok] at e
    cases eb : fb ρ with
    | ok y =>
      rw [eb, R.bind_ok] at e
      cases eg : g x y with
      | some z =>
        rw [eg] at e
        cases e
        exact hg x y d eg
      | none => rw [eg] at e; cases e
    | _ => rw [eb] at e; cases e
  | _ => rw [ea] at e; cases e
theorem et_cmp {a b : Expr} {op : CmpOp} {r : R2} {g : D → D → Option D} {fa fb : Env → R D} {pos : Pos} (ho : OpR X (compareOp op) r) (hg : Says2 E r g) (hbl : ∀ x y d, g x y = some d → ∃ b, d = .bl b) (hm : behindInMarks op b = false) (ha : EV X E W a fa) (hb : EV X E W b fb) :
    ET X E W (.Compare a [op] [b] pos) (eT (e2 g fa fb)) :=
  ⟨pt_mono (pt_cmpR ho ha.pe hb.pe hm) fun _ _ _ h => tT_of (e2_bl hbl) (fun _ _ _ q => says2 hg q) h⟩
theorem gCmp_bl {c : Int → Int → Bool} (x y d : D) (e : gCmp c x y = some d) : ∃ b, d = .bl b := by
  cases x with
  | int i =>
    cases y with
    | int j => cases e; exact ⟨_, rfl⟩
    | _ => cases e
  | _ => cases e
theorem gEq_isbl (x y d : D) (e : gEq x y = some d) : ∃ b, d = .bl b := by
  unfold gEq at e
  split at e <;> first | (cases e; exact ⟨_, rfl⟩) | (obtain ⟨_, e⟩ := if_some e; cases e; exact ⟨_, rfl⟩)
theorem gNe_isbl (x y d : D) (e : gNe x y = some d) : ∃ b, d = .bl b := by
  unfold gNe at e
  split at e <;> first | (cases e; exact ⟨_, rfl⟩) | (obtain ⟨_, e⟩ := if_some e; cases e; exact ⟨_, rfl⟩)
theorem gIs_isbl (x y d : D) (e : gIs x y = some d) : ∃ b, d = .bl b := by
  unfold gIs at e
  split at e <;> cases e
  exact ⟨_, rfl⟩
theorem gIsNot_isbl (x y d : D) (e : gIsNot x y = some d) : ∃ b, d = .bl b := by
  unfold gIsNot at e
  split at e <;> cases e
  exact ⟨_, rfl⟩
section
variable {a b c : Expr} {fa fb fc : Env → R D} {pos : Pos}
theorem et_lt (ha : EV X E W a fa) (hb : EV X E W b fb) : ET X E W (.Compare a [.Lt] [b] pos) (eT (e2 gLt fa fb)) := et_cmp op_lt says_cmp gCmp_bl (nomark b) ha hb
theorem et_le (ha : EV X E W a fa) (hb : EV X E W b fb) : ET X E W (.Compare a [.LtE] [b] pos) (eT (e2 gLe fa fb)) := et_cmp op_le says_cmp gCmp_bl (nomark b) ha hb
theorem et_gt (ha : EV X E W a fa) (hb : EV X E W b fb) : ET X E W (.Compare a [.Gt] [b] pos) (eT (e2 gGt fa fb)) := et_cmp op_gt says_cmp gCmp_bl (nomark b) ha hb
theorem et_ge (ha : EV X E W a fa) (hb : EV X E W b fb) : ET X E W (.Compare a [.GtE] [b] pos) (eT (e2 gGe fa fb)) := et_cmp op_ge says_cmp gCmp_bl (nomark b) ha hb
theorem et_eq (hK : E.k.K = X.K) (hu : X.A.units + 64 < cLine) (ha : EV X E W a fa) (hb : EV X E W b fb) : ET X E W (.Compare a [.Eq] [b] pos) (eT (e2 gEq fa fb)) := et_cmp (op_eqA hu) (by rw [← hK]; exact says_eq) gEq_isbl (nomark b) ha hb
theorem et_ne (hK : E.k.K = X.K) (hu : X.A.units + 64 < cLine) (ha : EV X E W a fa) (hb : EV X E W b fb) : ET X E W (.Compare a [.NotEq] [b] pos) (eT (e2 gNe fa fb)) := et_cmp (op_neA hu) (by rw [← hK]; exact says_ne) gNe_isbl (nomark b) ha hb
theorem et_is (ha : EV X E W a fa) (hb : EV X E W b fb) : ET X E W (.Compare a [.Is] [b] pos) (eT (e2 gIs fa fb)) := by
  refine et_cmp op_isN ?_ gIs_isbl (nomark b) ha hb
  intro F H x y v w A B Q d fh rx ry e g
  cases y with
  | non =>
    cases e
    exact ⟨ry.1, by rw [rx.non_iff]; exact g.scal fh fun _ _ => ⟨rfl, rfl⟩⟩
  | _ => cases e
theorem et_isNot (ha : EV X E W a fa) (hb : EV X E W b fb) : ET X E W (.Compare a [.IsNot] [b] pos) (eT (e2 gIsNot fa fb)) := by
  refine et_cmp op_notN ?_ gIsNot_isbl (nomark b) ha hb
  intro F H x y v w A B Q d fh rx ry e g
  cases y with
  | non =>
    cases e
    exact ⟨ry.1, by rw [rx.non_iff]; exact g.scal fh fun _ _ => ⟨rfl, rfl⟩⟩
  | _ => cases e
theorem et_chain {op op' : CmpOp} {r r' : R2} {g g' : D → D → Option D} (ho : OpR X (compareOp op) r) (hg : Says2 E r g) (ho' : OpR X (compareOp op') r') (hg' : Says2 E r' g') (hm : lastMarks [op, op'] [b, c] = false) (hbl : ∀ x y d, g' x y = some d → ∃ b, d = .bl b) (ha : EV X E W a fa) (hb : EV X E W b fb) (hc : EV X E W c fc) :
    ET X E W (.Compare a [op, op'] [b, c] pos) (eT (e3 g g' fa fb fc)) := by
  refine ⟨pt_mono (pt_chain ho ho' ha.pe hb.pe hc.pe hm) fun σ H Q h => tT_of (fa := e3 g g' fa fb fc) (fun ρ d e => ?_) (fun σ H Q h => ?_) h⟩
  · unfold e3 at e
    cases ea : fa ρ with
    | ok x =>
      rw [ea, R.bind_ok] at e
      cases eb : fb ρ with
      | ok y =>
        rw [eb, R.bind_ok] at e
        cases eg : g x y with
        | some z =>
          rw [eg, R.opt_some, R.bind_ok] at e
          split at e
          · cases ec : fc ρ with
            | ok w =>
              rw [ec, R.bind_ok] at e
              cases eg' : g' y w with
              | some z' =>
                rw [eg'] at e
                cases e
                exact hbl _ _ _ eg'
              | none => rw [eg'] at e; cases e
            | _ => rw [ec] at e; cases e
          · cases e; exact ⟨_, rfl⟩
          · cases e
        | none => rw [eg] at e; cases e
      | _ => rw [eb] at e; cases e
    | _ => rw [ea] at e; cases e
  · obtain ⟨F, ρ, s, q⟩ := h
    refine ⟨F, ρ, s, Res.mono q.bind (fun x _ q F1 H1 v A t1 r1 => ?_) fun c _ z F' H' t => z F' H' t⟩
    refine ⟨F1, ρ, s.tr t1, Res.mono q.bind (fun y _ q F2 H2 w B t2 r2 => ?_) fun c _ z F' H' t => z F' H' (t1.trans t)⟩
    obtain ⟨d, e, p⟩ := Res.opt q.bind
    have t12 := t1.trans t2
    refine hg F2 H2 x y v w A B _ d t2.fh (r1.tr t2) r2 e fun F3 H3 v3 A3 t3 r3 n3 u3 => ?_
    cases d with
    | bl k =>
      refine ⟨k, r3.1, ?_⟩
      cases k with
      | true =>
        rw [if_pos rfl]
        refine ⟨F3, ρ, (s.tr t12).tr t3, Res.mono (Res.bind p) (fun z _ q F4 H4 v4 A4 t4 r4 => ?_) fun c _ z F' H' t => z F' H' ((t12.trans t3).trans t)⟩
        obtain ⟨d', e', p'⟩ := Res.opt q
        have t34 := t3.trans t4
        exact hg' F4 H4 y z w v4 B A4 Q d' t4.fh (r2.tr t34) r4 e' (GOk.back (F := F) (H := H) (F1 := F4) (H1 := H4) p' (t12.trans t34))
      | false =>
        rw [if_neg Bool.false_ne_true]
        exact p F3 H3 (.bl false) [] (t12.trans t3) ⟨rfl, rfl⟩ .nil fun _ z => nomatch z
    | _ => exact (show False from p).elim
end
/-! and, or, not -/
def tNotF (f : Env → R Bool) : Env → R Bool := fun ρ => (f ρ).bind fun b => .ok (!b)
def tAndF (f g : Env → R Bool) : Env → R Bool := fun ρ => (f ρ).bind fun b => if b = true then g ρ else .ok false
def tOrF (f g : Env → R Bool) : Env → R Bool := fun ρ => (f ρ).bind fun b => if b = true then .ok true else g ρ
@[simp] theorem tNotF_eq (f : Env → R Bool) (ρ : Env) : tNotF f ρ = (f ρ).bind fun b => .ok (!b) := rfl
@[simp] theorem tAndF_eq (f g : Env → R Bool) (ρ : Env) : tAndF f g ρ = (f ρ).bind fun b => if b = true then g ρ else .ok false := rfl
@[simp] theorem tOrF_eq (f g : Env → R Bool) (ρ : Env) : tOrF f g ρ = (f ρ).bind fun b => if b = true then .ok true else g ρ := rfl
section
variable {a b : Expr} {rest : List Expr} {f g : Env → R Bool} {pos : Pos}
theorem et_not (h : ET X E W a f) : ET X E W (.UnaryOp .Not a pos) (tNotF f) := by
  refine ⟨pt_mono (pt_not h.pt) fun σ H Q h => ?_⟩
  obtain ⟨F, ρ, s, q⟩ := h
  exact ⟨F, ρ, s, Res.mono q.bind (fun x _ q => q) fun c _ z F' H' t => z F' H' t⟩
theorem tAnd_of {t u : TT} (h1 : ∀ σ H Q, tT E W f σ H Q → t σ H Q) (h2 : ∀ σ H Q, tT E W g σ H Q → u σ H Q) {σ : L2.St} {H : Hp} {Q : Bool → Hp → Prop} (h : tT E W (tAndF f g) σ H Q) : tAnd t u σ H Q := by
  obtain ⟨F, ρ, s, q⟩ := h
  refine h1 σ H _ ⟨F, ρ, s, Res.mono q.bind (fun x _ q F1 H1 t1 => ?_) fun c _ z F' H' t => z F' H' t⟩
  cases x with
  | true => exact h2 σ H1 _ ⟨F1, ρ, s.tr t1, Res.mono q (fun y _ q F2 H2 t2 => q F2 H2 (t1.trans t2)) fun c _ z F' H' t => z F' H' (t1.trans t)⟩
  | false => exact q F1 H1 t1
theorem tOr_of {t u : TT} (h1 : ∀ σ H Q, tT E W f σ H Q → t σ H Q) (h2 : ∀ σ H Q, tT E W g σ H Q → u σ H Q) {σ : L2.St} {H : Hp} {Q : Bool → Hp → Prop} (h : tT E W (tOrF f g) σ H Q) : tOr t u σ H Q := by
  obtain ⟨F, ρ, s, q⟩ := h
  refine h1 σ H _ ⟨F, ρ, s, Res.mono q.bind (fun x _ q F1 H1 t1 => ?_) fun c _ z F' H' t => z F' H' t⟩
  cases x with
  | false => exact h2 σ H1 _ ⟨F1, ρ, s.tr t1, Res.mono q (fun y _ q F2 H2 t2 => q F2 H2 (t1.trans t2)) fun c _ z F' H' t => z F' H' (t1.trans t)⟩
  | true => exact q F1 H1 t1
theorem ew_and1 (h : ET X E W a f) : EW X E W (.BoolOp .And [a] pos) f := ⟨pw_and1 h.pt⟩
theorem ew_or1 (h : ET X E W a f) : EW X E W (.BoolOp .Or [a] pos) f := ⟨pw_or1 h.pt⟩
theorem ew_and (ha : ET X E W a f) (hb : EW X E W (.BoolOp .And (b :: rest) pos) g) : EW X E W (.BoolOp .And (a :: b :: rest) pos) (tAndF f g) :=
  ⟨pw_mono (pw_and ha.pt hb.pw) fun _ _ _ h => tAnd_of (fun _ _ _ z => z) (fun _ _ _ z => z) h⟩
theorem ew_or (ha : ET X E W a f) (hb : EW X E W (.BoolOp .Or (b :: rest) pos) g) : EW X E W (.BoolOp .Or (a :: b :: rest) pos) (tOrF f g) :=
  ⟨pw_mono (pw_or ha.pt hb.pw) fun _ _ _ h => tOr_of (fun _ _ _ z => z) (fun _ _ _ z => z) h⟩
theorem EW.t {e : Expr} (h : EW X E W e f) : ET X E W e f := ⟨h.pw.pt⟩
end
/-! .. as values, by truth -/
def eNot (f : Env → R D) : Env → R D := fun ρ => (f ρ).bind fun d => (R.opt (asT d)).bind fun b => .ok (.bl (!b))
def eAnd (f g : Env → R D) : Env → R D := fun ρ => (f ρ).bind fun d => (R.opt (asT d)).bind fun b => if b = true then g ρ else .ok d
def eOr (f g : Env → R D) : Env → R D := fun ρ => (f ρ).bind fun d => (R.opt (asT d)).bind fun b => if b = true then .ok d else g ρ
@[simp] theorem eNot_eq (f : Env → R D) (ρ : Env) : eNot f ρ = (f ρ).bind fun d => (R.opt (asT d)).bind fun b => .ok (.bl (!b)) := rfl
@[simp] theorem eAnd_eq (f g : Env → R D) (ρ : Env) : eAnd f g ρ = (f ρ).bind fun d => (R.opt (asT d)).bind fun b => if b = true then g ρ else .ok d := rfl
@[simp] theorem eOr_eq (f g : Env → R D) (ρ : Env) : eOr f g ρ = (f ρ).bind fun d => (R.opt (asT d)).bind fun b => if b = true then .ok d else g ρ := rfl
section
variable {a b : Expr} {rest : List Expr} {f g : Env → R D} {pos : Pos}
theorem eo_not (hK : E.k.K = X.K) (h : EV X E W a f) : EO X E W (.UnaryOp .Not a pos) (eNot f) := by
  refine ⟨pe_mono (pe_notT h.pe) fun σ H Q h => ?_⟩
  obtain ⟨F, ρ, s, q⟩ := h
  refine ⟨F, ρ, s, Res.mono q.bind (fun x _ q F1 H1 v A t1 r1 => ?_) fun c _ z F' H' t => z F' H' t⟩
  obtain ⟨b, e, p⟩ := Res.opt q.bind
  exact ⟨b, by rw [← hK]; exact r1.tru t1.fh e, p F1 H1 (.bl (!b)) [] t1 ⟨rfl, rfl⟩ .nil fun _ z => nomatch z⟩
theorem ev_one {op : BoolOp} (h : EV X E W a f) : EV X E W (.BoolOp op [a] pos) f := ⟨pe_one h.pe⟩
theorem ev_and (hK : E.k.K = X.K) (h : EV X E W a f) (hb : EV X E W (.BoolOp .And (b :: rest) pos) g) : EV X E W (.BoolOp .And (a :: b :: rest) pos) (eAnd f g) := by
  refine ⟨pe_mono (pe_andT h.pe hb.pe) fun σ H Q h => ?_⟩
  obtain ⟨F, ρ, s, q⟩ := h
  refine ⟨F, ρ, s, Res.mono q.bind (fun x _ q F1 H1 v A t1 r1 => ?_) fun c _ z F' H' t => z F' H' t⟩
  obtain ⟨b, e, p⟩ := Res.opt q.bind
  refine ⟨b, by rw [← hK]; exact r1.tru t1.fh e, ?_⟩
  cases b with
  | true => exact ⟨F1, ρ, s.tr t1, Res.mono p (fun y _ q F2 H2 v A t2 r => q F2 H2 v A (t1.trans t2) r) fun c _ z F' H' t => z F' H' (t1.trans t)⟩
  | false => exact p F1 H1 v A t1 r1
theorem ev_or (hK : E.k.K = X.K) (h : EV X E W a f) (hb : EV X E W (.BoolOp .Or (b :: rest) pos) g) : EV X E W (.BoolOp .Or (a :: b :: rest) pos) (eOr f g) := by
  refine ⟨pe_mono (pe_orT h.pe hb.pe) fun σ H Q h => ?_⟩
  obtain ⟨F, ρ, s, q⟩ := h
  refine ⟨F, ρ, s, Res.mono q.bind (fun x _ q F1 H1 v A t1 r1 => ?_) fun c _ z F' H' t => z F' H' t⟩
  obtain ⟨b, e, p⟩ := Res.opt q.bind
  refine ⟨b, by rw [← hK]; exact r1.tru t1.fh e, ?_⟩
  cases b with
  | false => exact ⟨F1, ρ, s.tr t1, Res.mono p (fun y _ q F2 H2 v A t2 r => q F2 H2 v A (t1.trans t2) r) fun c _ z F' H' t => z F' H' (t1.trans t)⟩
  | true => exact p F1 H1 v A t1 r1
end
def eIf (t : Env → R Bool) (f g : Env → R D) : Env → R D := fun ρ => (t ρ).bind fun b => if b = true then f ρ else g ρ
@[simp] theorem eIf_eq (t : Env → R Bool) (f g : Env → R D) (ρ : Env) : eIf t f g ρ = (t ρ).bind fun b => if b = true then f ρ else g ρ := rfl
section
variable {a b c : Expr} {t : Env → R Bool} {f g : Env → R D} {pos : Pos}
theorem ev_if (hc : ET X E W c t) (ha : EV X E W a f) (hb : EV X E W b g) : EV X E W (.IfExp c a b pos) (eIf t f g) := by
  refine ⟨pe_mono (pe_ifExp hc.pt ha.pe hb.pe) fun σ H Q h => ?_⟩
  obtain ⟨F, ρ, s, q⟩ := h
  refine ⟨F, ρ, s, Res.mono q.bind (fun x _ q F1 H1 t1 => ?_) fun c _ z F' H' t => z F' H' t⟩
  cases x with
  | true => exact ⟨F1, ρ, s.tr t1, Res.mono q (fun y _ q F2 H2 v A t2 r => q F2 H2 v A (t1.trans t2) r) fun c _ z F' H' t => z F' H' (t1.trans t)⟩
  | false => exact ⟨F1, ρ, s.tr t1, Res.mono q (fun y _ q F2 H2 v A t2 r => q F2 H2 v A (t1.trans t2) r) fun c _ z F' H' t => z F' H' (t1.trans t)⟩
theorem none_back {H H' : Hp} (e : Ex H H') {a : Addr} (h : H' a = none) : H a = none := by
  cases q : H a with
  | none => rfl
  | some o => rw [e a o q] at h; cases h
theorem eo_if (hc : ET X E W c t) (ha : EO X E W a f) (hb : EO X E W b g) : EO X E W (.IfExp c a b pos) (eIf t f g) := by
  refine ⟨pe_mono (pe_ifExp hc.pt ha.pe hb.pe) fun σ H Q h => ?_⟩
  obtain ⟨F, ρ, s, q⟩ := h
  refine ⟨F, ρ, s, Res.mono q.bind (fun x _ q F1 H1 t1 => ?_) fun c _ z F' H' t => z F' H' t⟩
  cases x with
  | true => exact ⟨F1, ρ, s.tr t1, Res.mono q (fun y _ q F2 H2 v A t2 r n u => q F2 H2 v A (t1.trans t2) r n fun a ha => none_back t1.hh (u a ha)) fun c _ z F' H' t => z F' H' (t1.trans t)⟩
  | false => exact ⟨F1, ρ, s.tr t1, Res.mono q (fun y _ q F2 H2 v A t2 r n u => q F2 H2 v A (t1.trans t2) r n fun a ha => none_back t1.hh (u a ha)) fun c _ z F' H' t => z F' H' (t1.trans t)⟩
end
end
end Dv
end
section
set_option maxRecDepth 100000
set_option maxHeartbeats 1000000
namespace Dv
open PySem PySem.Spec PyProof.Rows L2

section
variable {k : Kx} {F H F' H' : Hp}
/-- values that are looked at -/
abbrev Vw (k : Kx) (F H : Hp) : List V → List D → Prop := Paired fun v d => ∃ A, Rp k F H d v A
theorem Vw.tr (t : Tr F H F' H') : ∀ {vs : List V} {ds : List D}, Vw k F H vs ds → Vw k F' H' vs ds
  | _, _, .nil => .nil
  | _, _, .cons ⟨A, r⟩ s => .cons ⟨A, r.tr t⟩ (Vw.tr t s)
theorem Vw.rpl : ∀ {vs : List V} {ds : List D}, Vw k F H vs ds → ∃ A, RpL k F H ds vs A
  | _, _, .nil => ⟨[], rfl, rfl⟩
  | _, _, .cons ⟨A, r⟩ s => by
    obtain ⟨B, q⟩ := Vw.rpl s
    exact ⟨A ++ B, _, _, A, B, rfl, rfl, r, q⟩
theorem RpL.vw : ∀ {ds : List D} {vs : List V} {A : List Addr}, RpL k F H ds vs A → Vw k F H vs ds
  | [], _, _, h => by rw [h.1]; exact .nil
  | d :: ds, xs, A, h => by
    obtain ⟨v, vs, B, C, e1, e2, h1, h2⟩ := h
    rw [e1]
    exact .cons ⟨B, h1⟩ (RpL.vw h2)
theorem Vw.app : ∀ {vs ws : List V} {ds es : List D}, Vw k F H vs ds → Vw k F H ws es → Vw k F H (vs ++ ws) (ds ++ es)
  | _, _, _, _, .nil, s => s
  | _, _, _, _, .cons r t, s => .cons r (Vw.app t s)
end
section
variable {X : Cx} {E : En} {W : WX}
/-! ### argument lists -/
def aNil : Env → R (List D) := fun _ => .ok []
def aV (f : Env → R D) (g : Env → R (List D)) : Env → R (List D) := fun ρ => (f ρ).bind fun x => (g ρ).bind fun xs => .ok (x :: xs)
/-- an own value: frozen -/
def aO (f : Env → R D) (g : Env → R (List D)) : Env → R (List D) := fun ρ => (f ρ).bind fun x => if x.cold = true then (g ρ).bind fun xs => .ok (x.frz :: xs) else .no
def items : D → Option (List D)
  | .lst _ xs => some xs
  | .tup xs => some xs
  | _ => none
@[simp] theorem items_lst (o : Bool) (xs : List D) : items (.lst o xs) = some xs := rfl
@[simp] theorem items_tup (xs : List D) : items (.tup xs) = some xs := rfl
def aS (f : Env → R D) (g : Env → R (List D)) : Env → R (List D) := fun ρ => (f ρ).bind fun x => (R.opt (items x)).bind fun ys => (g ρ).bind fun xs => .ok (ys ++ xs)
@[simp] theorem aNil_eq (ρ : Env) : aNil ρ = .ok [] := rfl
@[simp] theorem aV_eq (f : Env → R D) (g : Env → R (List D)) (ρ : Env) : aV f g ρ = (f ρ).bind fun x => (g ρ).bind fun xs => .ok (x :: xs) := rfl
@[simp] theorem aO_eq (f : Env → R D) (g : Env → R (List D)) (ρ : Env) : aO f g ρ = (f ρ).bind fun x => if x.cold = true then (g ρ).bind fun xs => .ok (x.frz :: xs) else .no := rfl
@[simp] theorem aS_eq (f : Env → R D) (g : Env → R (List D)) (ρ : Env) : aS f g ρ = (f ρ).bind fun x => (R.opt (items x)).bind fun ys => (g ρ).bind fun xs => .ok (ys ++ xs) := rfl
theorem tr_fz {F H F1 H1 : Hp} {A : List Addr} (t : Tr F H F1 H1) (n : ∀ a ∈ A, F1 a = none) (u : ∀ a ∈ A, H a = none) : Tr F H (fz F1 H1 A) H1 :=
  ⟨t.ff.trans (fz_ex n), t.hh, fz_exH t.fh, fun a e z => by
    by_cases q : a ∈ A
    · exact absurd (u a q) z
    · rw [fz_out q]; exact t.no a e z⟩
section
variable {e : Expr} {es : List Expr} {f : Env → R D} {g : Env → R (List D)} {p : Pos}
theorem ea_nil : EA X E W [] aNil := ⟨pa_mono pa_nil fun σ H Q ⟨F, ρ, s, q⟩ => q F H [] (Tr.refl s.fh) .nil⟩
theorem ea_v (h : EV X E W e f) (hr : EA X E W es g) (hs : starEach (e :: es) X.env = (false, eval e X.env) :: starEach es X.env := by rfl) : EA X E W (e :: es) (aV f g) := by
  refine ⟨pa_mono (pa_cons h.pe hr.pa hs) fun σ H Q h => ?_⟩
  obtain ⟨F, ρ, s, q⟩ := h
  refine ⟨F, ρ, s, Res.mono q.bind (fun x _ q F1 H1 v A t1 r1 => ?_) fun c _ z F' H' t => z F' H' t⟩
  exact ⟨F1, ρ, s.tr t1, Res.mono q.bind (fun xs _ q F2 H2 vs t2 r2 => q F2 H2 (v :: vs) (t1.trans t2) (.cons ⟨A, r1.tr t2⟩ r2)) fun c _ z F' H' t => z F' H' (t1.trans t)⟩
theorem ea_o (h : EO X E W e f) (hr : EA X E W es g) (hs : starEach (e :: es) X.env = (false, eval e X.env) :: starEach es X.env := by rfl) : EA X E W (e :: es) (aO f g) := by
  refine ⟨pa_mono (pa_cons h.pe hr.pa hs) fun σ H Q h => ?_⟩
  obtain ⟨F, ρ, s, q⟩ := h
  refine ⟨F, ρ, s, Res.mono q.bind (fun x _ q F1 H1 v A t1 r1 n1 u1 => ?_) fun c _ z F' H' t => z F' H' t⟩
  by_cases c : x.cold = true
  · rw [if_pos c] at q
    have n := fun a ha => (Rp.dom x v A r1 a ha).1
    have t1' := tr_fz t1 n u1
    have r1' : Rp E.k (fz F1 H1 A) H1 x.frz v [] := Rp.frz n x v A c (fun _ z => z) r1
    exact ⟨_, ρ, s.tr t1', Res.mono q.bind (fun xs _ q F2 H2 vs t2 r2 => q F2 H2 (v :: vs) (t1'.trans t2) (.cons ⟨[], r1'.tr t2⟩ r2)) fun c _ z F' H' t => z F' H' (t1'.trans t)⟩
  · rw [if_neg c] at q
    exact q.elim
theorem Rp.items (fh : Ex F H) {k : Kx} {d : D} {v : V} {A : List Addr} {ys : List D} (h : Rp k F H d v A) (e : items d = some ys) : ∃ a vs B, v = .ref a ∧ (SqT k.K H a vs ∨ SqL k.K H a vs) ∧ RpL k F H ys vs B := by
  cases d with
  | lst o xs =>
    cases e
    obtain ⟨a, vs, B, e, s, r⟩ := Rp.lstW fh h
    exact ⟨a, vs, B, e, .inr (.inl (.inl s)), r⟩
  | tup xs =>
    cases e
    obtain ⟨a, vs, e, s, r⟩ := h
    exact ⟨a, vs, A, e, .inl (ex_t fh s), r⟩
  | _ => cases e
theorem ea_s (hK : E.k.K = X.K) (h : EV X E W e f) (hr : EA X E W es g) (hs : starEach (.Starred e p :: es) X.env = (true, eval e X.env) :: starEach es X.env := by rfl) : EA X E W (.Starred e p :: es) (aS f g) := by
  refine ⟨pa_mono (StX.pa_star h.pe hr.pa hs) fun σ H Q h => ?_⟩
  obtain ⟨F, ρ, s, q⟩ := h
  refine ⟨F, ρ, s, Res.mono q.bind (fun x _ q F1 H1 v A t1 r1 => ?_) fun c _ z F' H' t => z F' H' t⟩
  obtain ⟨ys, ey, q⟩ := Res.opt q.bind
  obtain ⟨a, vs, B, e, s1, r⟩ := r1.items t1.fh ey
  refine ⟨a, vs, e, by rw [← hK]; exact s1, ?_⟩
  exact ⟨F1, ρ, s.tr t1, Res.mono q.bind (fun xs _ q F2 H2 ws t2 r2 => q F2 H2 (vs ++ ws) (t1.trans t2) (Vw.app (RpL.vw (r.tr t2)) r2)) fun c _ z F' H' t => z F' H' (t1.trans t)⟩

/-! ### displays -/
def eTup (g : Env → R (List D)) : Env → R D := fun ρ => (g ρ).bind fun ds => if D.pureL ds = true ∧ ds.length ≤ 16777216 then .ok (.tup ds) else .no
def eLst (g : Env → R (List D)) : Env → R D := fun ρ => (g ρ).bind fun ds => if D.pureL ds = true ∧ ds.length ≤ 16777216 then .ok (.lst true ds) else .no
@[simp] theorem eTup_eq (g : Env → R (List D)) (ρ : Env) : eTup g ρ = (g ρ).bind fun ds => if D.pureL ds = true ∧ ds.length ≤ 16777216 then .ok (.tup ds) else .no := rfl
@[simp] theorem eLst_eq (g : Env → R (List D)) (ρ : Env) : eLst g ρ = (g ρ).bind fun ds => if D.pureL ds = true ∧ ds.length ≤ 16777216 then .ok (.lst true ds) else .no := rfl
theorem eo_tup {x1 : Nat} (h : EA X E W es g) : EO X E W (.Tuple es x1 p) (eTup g) := by
  refine ⟨pe_mono (pe_tup h.pa) fun σ H Q h => ?_⟩
  obtain ⟨F, ρ, s, q⟩ := h
  refine ⟨F, ρ, s, Res.mono q.bind (fun ds _ q F1 H1 vs t1 r1 => ?_) fun c _ z F' H' t => z F' H' t⟩
  by_cases c : D.pureL ds = true ∧ ds.length ≤ 16777216
  · rw [if_pos c] at q
    obtain ⟨A, r⟩ := Vw.rpl r1
    have r' : RpL E.k F1 H1 ds vs [] := RpL.pure c.1 (.refl _) r
    exact ⟨big_le (by rw [← r.len]; exact c.2), fun p hp => GOk.tup (E := E) t1.fh (GOk.back (E := E) (F := F) (H := H) q t1) hp r'⟩
  · rw [if_neg c] at q
    exact q.elim
theorem eo_lst (h : EA X E W es g) : EO X E W (.List es p) (eLst g) := by
  refine ⟨pe_mono (pe_lst h.pa) fun σ H Q h => ?_⟩
  obtain ⟨F, ρ, s, q⟩ := h
  refine ⟨F, ρ, s, Res.mono q.bind (fun ds _ q F1 H1 vs t1 r1 => ?_) fun c _ z F' H' t => z F' H' t⟩
  by_cases c : D.pureL ds = true ∧ ds.length ≤ 16777216
  · rw [if_pos c] at q
    obtain ⟨A, r⟩ := Vw.rpl r1
    have r' : RpL E.k F1 H1 ds vs [] := RpL.pure c.1 (.refl _) r
    exact ⟨big_le (by rw [← r.len]; exact c.2), fun p hp => GOk.lst (E := E) t1.fh (GOk.back (E := E) (F := F) (H := H) q t1) hp r'⟩
  · rw [if_neg c] at q
    exact q.elim
end

/-! ### subscripts -/
def ixD {α : Type} (xs : List α) (i : Int) : Option α := if 0 ≤ i then xs[i.toNat]? else if -(xs.length : Int) ≤ i then xs[(i + xs.length).toNat]? else none
theorem ixD_atI {α : Type} (xs : List α) (i : Int) : atI xs i = ixD xs i := by
  unfold atI ixN ixD
  by_cases h : 0 ≤ i
  · rw [if_pos h, if_pos h]
    by_cases h2 : i < (xs.length : Int)
    · rw [if_pos h2]; rfl
    · rw [if_neg h2]
      exact (List.getElem?_eq_none (by omega)).symm
  · rw [if_neg h, if_neg h]
    by_cases h2 : -(xs.length : Int) ≤ i
    · rw [if_pos h2, if_pos h2]; rfl
    · rw [if_neg h2, if_neg h2]; rfl
theorem ixD_nat {α : Type} (xs : List α) (j : Nat) : ixD xs (j : Int) = xs[j]? := by
  unfold ixD
  rw [if_pos (by omega), Int.toNat_natCast]
theorem ixD_pos {α : Type} (xs : List α) {i : Int} (h : 0 ≤ i) : ixD xs i = xs[i.toNat]? := by
  unfold ixD
  rw [if_pos h]
theorem RpL.ix {k : Kx} {F H : Hp} {ds : List D} {vs : List V} {A : List Addr} {i : Int} {d : D} (h : RpL k F H ds vs A) (e : ixD ds i = some d) : ∃ v B, atI vs i = some v ∧ Rp k F H d v B := by
  rw [ixD_atI]
  unfold ixD at e ⊢
  have hl := h.len
  by_cases z : 0 ≤ i
  · rw [if_pos z] at e ⊢
    obtain ⟨v, B, h1, h2, _⟩ := h.get e
    exact ⟨v, B, h1, h2⟩
  · rw [if_neg z] at e ⊢
    rw [← hl]
    by_cases z2 : -(ds.length : Int) ≤ i
    · rw [if_pos z2] at e ⊢
      obtain ⟨v, B, h1, h2, _⟩ := h.get e
      exact ⟨v, B, h1, h2⟩
    · rw [if_neg z2] at e
      cases e
def gIx : D → D → Option D
  | .lst _ xs, .int i => ixD xs i
  | .tup xs, .int i => ixD xs i
  | .scr xs, .int i => ixD xs i
  | .str x, .int i => if x.length ≤ 16777216 then (ixD x.cps.toList i).map fun c => .str ⟨#[c]⟩ else none
  | _, _ => none
@[simp] theorem gIx_lst (o : Bool) (xs : List D) (i : Int) : gIx (.lst o xs) (.int i) = ixD xs i := rfl
@[simp] theorem gIx_scr (xs : List D) (i : Int) : gIx (.scr xs) (.int i) = ixD xs i := rfl
@[simp] theorem gIx_tup (xs : List D) (i : Int) : gIx (.tup xs) (.int i) = ixD xs i := rfl
def PlainIxX (b : Expr) : Prop := ∀ o i, subscripted b false o i = operate [o, i] (getItem o i)
theorem ev_ix {a b : Expr} {fa fb : Env → R D} {pos : Pos} (hK : E.k.K = X.K) (ha : EV X E W a fa) (hb : EV X E W b fb) (hs : PlainIx b := by exact fun _ _ => rfl) : EV X E W (.Subscript a b pos) (e2 gIx fa fb) := by
  refine ⟨pe_mono (pe_ix ix_seq ha.pe hb.pe hs) fun σ H Q h => ?_⟩
  obtain ⟨F, ρ, s, q⟩ := h
  refine ⟨F, ρ, s, Res.mono q.bind (fun x _ q F1 H1 v A t1 r1 => ?_) fun c _ z F' H' t => z F' H' t⟩
  refine ⟨F1, ρ, s.tr t1, Res.mono q.bind (fun y _ q F2 H2 w B t2 r2 => ?_) fun c _ z F' H' t => z F' H' (t1.trans t)⟩
  obtain ⟨d, e, p⟩ := Res.opt q
  have t12 := t1.trans t2
  have r1' := r1.tr t2
  rw [← hK]
  cases y with
  | int i =>
    have ew : w = .int i := r2.1
    cases x with
    | lst o xs =>
      obtain ⟨a, vs, B, rfl, s1, r⟩ := Rp.lstW t2.fh r1'
      obtain ⟨z, C, h1, h2⟩ := r.ix e
      exact .inl ⟨a, vs, i, z, rfl, ew, .inl (.inl s1), h1, p F2 H2 z C t12 h2⟩
    | scr xs =>
      obtain ⟨a, vs, rfl, _, s1, r⟩ := r1'
      obtain ⟨z, C, h1, h2⟩ := r.ix e
      exact .inl ⟨a, vs, i, z, rfl, ew, ex_l t2.fh s1, h1, p F2 H2 z C t12 h2⟩
    | tup xs =>
      obtain ⟨a, vs, rfl, s1, r⟩ := r1'
      obtain ⟨z, C, h1, h2⟩ := r.ix e
      exact .inr (.inl ⟨a, vs, i, z, rfl, ew, ex_t t2.fh s1, h1, p F2 H2 z C t12 h2⟩)
    | str z =>
      by_cases hz : z.length ≤ 16777216
      · have e' : (if z.length ≤ 16777216 then (ixD z.cps.toList i).map fun c => D.str ⟨#[c]⟩ else none) = some d := e
        rw [if_pos hz] at e'
        cases ec : ixD z.cps.toList i with
        | none => rw [ec] at e'; cases e'
        | some c =>
          rw [ec] at e'
          cases e'
          exact .inr (.inr ⟨z, i, c, r1'.1, ew, big_le hz, by rw [ixD_atI]; exact ec, p F2 H2 _ [] t12 ⟨rfl, rfl⟩⟩)
      · have e' : (if z.length ≤ 16777216 then (ixD z.cps.toList i).map fun c => D.str ⟨#[c]⟩ else none) = some d := e
        rw [if_neg hz] at e'
        cases e'
    | _ => cases e
  | _ => cases x <;> cases e

/-! ### slices -/
def cutD {α : Type} (xs : List α) (lo hi : Option Int) : List α := (xs.drop (HT.sIx xs.length 0 lo)).take (HT.sIx xs.length xs.length hi - HT.sIx xs.length 0 lo)
def gSl (x : D) (lo hi : Option Int) : Option D :=
  match x with
  | .lst _ xs => if D.pureL xs = true then some (.lst true (cutD xs lo hi)) else none
  | .tup xs => if D.pureL xs = true then some (.tup (cutD xs lo hi)) else none
  | .str z => if z.length ≤ 16777216 then some (.str (cutS z lo hi)) else none
  | _ => none
@[simp] theorem gSl_lst (o : Bool) (xs : List D) (lo hi : Option Int) : gSl (.lst o xs) lo hi = if D.pureL xs = true then some (.lst true (cutD xs lo hi)) else none := rfl
@[simp] theorem gSl_tup (xs : List D) (lo hi : Option Int) : gSl (.tup xs) lo hi = if D.pureL xs = true then some (.tup (cutD xs lo hi)) else none := rfl
def oI : D → Option (Option Int)
  | .int i => some (some i)
  | _ => none
@[simp] theorem oI_int (i : Int) : oI (.int i) = some (some i) := rfl
def oNo : Env → R (Option Int) := fun _ => .ok none
def oPt (f : Env → R D) : Env → R (Option Int) := fun ρ => (f ρ).bind fun d => R.opt (oI d)
@[simp] theorem oNo_eq (ρ : Env) : oNo ρ = .ok none := rfl
@[simp] theorem oPt_eq (f : Env → R D) (ρ : Env) : oPt f ρ = (f ρ).bind fun d => R.opt (oI d) := rfl
def tOF (E : En) (W : WX) (f : Env → R (Option Int)) : TO := fun σ H Q => ∃ F ρ, Stt E F H σ ρ ∧
  Res (f ρ) (fun o => ∀ F' H', Tr F H F' H' → Q o H') (fun c => ∀ F' H', Tr F H F' H' → W (E.ec c) none σ H')
structure EP2 (X : Cx) (E : En) (W : WX) (e : Option Expr) (f : Env → R (Option Int)) : Prop where
  po : PO X e (tOF E W f)
theorem ep_no : EP2 X E W none oNo := ⟨⟨fun pins s σ H Q I ⟨F, ρ, st, q⟩ => po_none.run pins s σ H Q I (q F H (Tr.refl st.fh))⟩⟩
theorem ep_pt {e : Expr} {f : Env → R D} (h : EV X E W e f) : EP2 X E W (some e) (oPt f) := by
  refine ⟨⟨fun pins s σ H Q I h' => (po_some h.pe).run pins s σ H Q I ?_⟩⟩
  obtain ⟨F, ρ, st, q⟩ := h'
  refine ⟨F, ρ, st, Res.mono q.bind (fun x _ q F1 H1 v A t1 r1 => ?_) fun c _ z F' H' t => z F' H' t⟩
  obtain ⟨o, e, p⟩ := Res.opt q
  cases x with
  | int i => cases e; exact ⟨i, r1.1, p F1 H1 t1⟩
  | _ => cases e
def eSl (f : Env → R D) (lo hi : Env → R (Option Int)) : Env → R D := fun ρ => (f ρ).bind fun d => (lo ρ).bind fun a => (hi ρ).bind fun b => R.opt (gSl d a b)
@[simp] theorem eSl_eq (f : Env → R D) (lo hi : Env → R (Option Int)) (ρ : Env) : eSl f lo hi ρ = (f ρ).bind fun d => (lo ρ).bind fun a => (hi ρ).bind fun b => R.opt (gSl d a b) := rfl
theorem RpL.cut {k : Kx} {F H : Hp} {ds : List D} {vs : List V} (h : RpL k F H ds vs []) (lo hi : Option Int) : RpL k F H (cutD ds lo hi) (cutV vs lo hi) [] := by
  unfold cutD cutV
  rw [h.len]
  exact (h.drop _).take _
theorem cutV_whole {vs : List V} {lo hi : Option Int} (h : HT.sIx vs.length 0 lo = 0 ∧ HT.sIx vs.length vs.length hi = vs.length) : cutV vs lo hi = vs := by
  unfold cutV
  rw [h.1, h.2]
  simp
theorem eo_sl {a : Expr} {lo hi : Option Expr} {fa : Env → R D} {fl fh : Env → R (Option Int)} {pos p2 : Pos} (hK : E.k.K = X.K) (ha : EV X E W a fa) (hl : EP2 X E W lo fl) (hh : EP2 X E W hi fh) : EO X E W (.Subscript a (.Slice lo hi none p2) pos) (eSl fa fl fh) := by
  refine ⟨pe_mono (pe_slice (sl_list.or (sl_tupA.or sl_str)) ha.pe hl.po hh.po) fun σ H Q h => ?_⟩
  obtain ⟨F, ρ, s, q⟩ := h
  refine ⟨F, ρ, s, Res.mono q.bind (fun x _ q F1 H1 v A t1 r1 => ?_) fun c _ z F' H' t => z F' H' t⟩
  refine ⟨F1, ρ, s.tr t1, Res.mono q.bind (fun a _ q F2 H2 t2 => ?_) fun c _ z F' H' t => z F' H' (t1.trans t)⟩
  have t12 := t1.trans t2
  refine ⟨F2, ρ, s.tr t12, Res.mono q.bind (fun b _ q F3 H3 t3 => ?_) fun c _ z F' H' t => z F' H' (t12.trans t)⟩
  have t := t12.trans t3
  obtain ⟨d, e, p⟩ := Res.opt q
  have g : GOk E F3 H3 Q d := GOk.back (E := E) (F := F) (H := H) p t
  have r1' := (r1.tr t2).tr t3
  rw [← hK]
  cases x with
  | lst o xs =>
    obtain ⟨z, e⟩ := if_some e
    cases e
    obtain ⟨ad, vs, rfl, s1, r⟩ := Rp.lstR t3.fh z r1'
    exact .inl ⟨ad, vs, rfl, .inl (.inl s1), fun p hp => g.lst t3.fh hp (r.cut a b)⟩
  | tup xs =>
    obtain ⟨z, e⟩ := if_some e
    cases e
    obtain ⟨ad, vs, rfl, s1, r⟩ := r1'
    have r' : RpL E.k F3 H3 xs vs [] := RpL.pure z (.refl _) r
    refine .inr (.inl ⟨ad, vs, rfl, ex_t t3.fh s1, fun hw => ?_, fun _ p hp => g.tup t3.fh hp (r'.cut a b)⟩)
    refine g F3 H3 (.ref ad) [] (Tr.refl t3.fh) ⟨ad, vs, rfl, s1, ?_⟩ .nil fun _ z => nomatch z
    have := r'.cut a b
    rw [cutV_whole hw] at this
    exact this
  | str z =>
    obtain ⟨hz, e⟩ := if_some e
    cases e
    exact .inr (.inr ⟨z, r1'.1, big_le hz, g.scal t3.fh fun _ _ => ⟨rfl, rfl⟩⟩)
  | _ => cases e

/-! ### calls of built-ins -/
def eB (g : List D → Option D) (fs : Env → R (List D)) : Env → R D := fun ρ => (fs ρ).bind fun ds => R.opt (g ds)
@[simp] theorem eB_eq (g : List D → Option D) (fs : Env → R (List D)) (ρ : Env) : eB g fs ρ = (fs ρ).bind fun ds => R.opt (g ds) := rfl
def SaysC (E : En) (r : List V → Hp → VK → Prop) (g : List D → Option D) : Prop := ∀ F H ds vs Q d, Ex F H → Vw E.k F H vs ds → g ds = some d → GOk E F H Q d → r vs H Q
theorem saysC {r : List V → Hp → VK → Prop} {g : List D → Option D} (hg : SaysC E r g) {fs : Env → R (List D)} {σ : L2.St} {H : Hp} {Q : VK} (h : tO E W (eB g fs) σ H Q) : tCB r (tA E W fs) σ H Q := by
  obtain ⟨F, ρ, s, q⟩ := h
  refine ⟨F, ρ, s, Res.mono q.bind (fun ds _ q F1 H1 vs t1 r1 => ?_) fun c _ z F' H' t => z F' H' t⟩
  obtain ⟨d, e, p⟩ := Res.opt q
  exact hg F1 H1 ds vs Q d t1.fh r1 e (GOk.back (E := E) (F := F) (H := H) p t1)
section
variable {x : Str} {p pos : Pos} {e : Expr} {es : List Expr} {fs : Env → R (List D)} {id T : String} {r : List V → Hp → VK → Prop} {g : List D → Option D}
theorem eo_B (hc : CallR X (.builtin id) r) (hg : SaysC E r g) (gl : Gl X x) (hm : X.mg x = none) (hv : bootBuiltins x = some (.builtin id)) (ha : EA X E W (e :: es) fs) (hn : x ≠ "__name__" := by decide) (hdb : (x == ("__debug__" : Str)) = false := by decide)
    (he : starEach (e :: es) X.env = (false, eval e X.env) :: starEach es X.env := by rfl) (hpl : (backTo pos (starEach es X.env)).any (·.1) = false := by rfl) : EO X E W (.Call (.Name x p) (e :: es) [] pos) (eB g fs) :=
  ⟨pe_mono (pe_callB hc gl hm hv ha.pa hn hdb he hpl) fun _ _ _ h => saysC hg h⟩
theorem eo_T (hc : CallR X (.type T) r) (hg : SaysC E r g) (gl : Gl X x) (hm : X.mg x = none) (hv : bootBuiltins x = some (.type T)) (ha : EA X E W (e :: es) fs) (hn : x ≠ "__name__" := by decide) (hdb : (x == ("__debug__" : Str)) = false := by decide)
    (he : starEach (e :: es) X.env = (false, eval e X.env) :: starEach es X.env := by rfl) (hpl : (backTo pos (starEach es X.env)).any (·.1) = false := by rfl) : EO X E W (.Call (.Name x p) (e :: es) [] pos) (eB g fs) :=
  ⟨pe_mono (pe_callTy hc gl hm hv ha.pa hn hdb he hpl) fun _ _ _ h => saysC hg h⟩
end
theorem Vw.one {k : Kx} {F H : Hp} {vs : List V} {d : D} (h : Vw k F H vs [d]) : ∃ v A, vs = [v] ∧ Rp k F H d v A := by
  cases h with
  | cons r t =>
    cases t
    obtain ⟨A, r⟩ := r
    exact ⟨_, A, rfl, r⟩
theorem Vw.two {k : Kx} {F H : Hp} {vs : List V} {d e : D} (h : Vw k F H vs [d, e]) : ∃ v w A B, vs = [v, w] ∧ Rp k F H d v A ∧ Rp k F H e w B := by
  cases h with
  | cons r t =>
    cases t with
    | cons r2 t =>
      cases t
      obtain ⟨A, r⟩ := r
      obtain ⟨B, r2⟩ := r2
      exact ⟨_, _, A, B, rfl, r, r2⟩
def gLen : List D → Option D
  | [.lst _ xs] => some (.int xs.length)
  | [.scr xs] => some (.int xs.length)
  | [.tup xs] => some (.int xs.length)
  | [.str x] => if x.length ≤ 16777216 then some (.int x.length) else none
  | _ => none
@[simp] theorem gLen_lst (o : Bool) (xs : List D) : gLen [.lst o xs] = some (.int xs.length) := rfl
@[simp] theorem gLen_scr (xs : List D) : gLen [.scr xs] = some (.int xs.length) := rfl
@[simp] theorem gLen_tup (xs : List D) : gLen [.tup xs] = some (.int xs.length) := rfl
@[simp] theorem gLen_str (x : Str) : gLen [.str x] = if x.length ≤ 16777216 then some (.int x.length) else none := rfl
theorem says_len : SaysC E (fun xs H Q => ∃ x n, xs = [x] ∧ LenV E.k.K x H n ∧ Q (.int n) H) gLen := by
  intro F H ds vs Q d fh r e g
  unfold gLen at e
  split at e
  · cases e
    obtain ⟨v, A, rfl, rr⟩ := r.one
    obtain ⟨a, ws, B, rfl, s, r⟩ := Rp.lstW fh rr
    exact ⟨_, ws.length, rfl, .inl ⟨ws, .inl (.inl s), rfl⟩, by rw [← r.len]; exact g.scal fh fun _ _ => ⟨rfl, rfl⟩⟩
  · cases e
    obtain ⟨v, A, rfl, rr⟩ := r.one
    obtain ⟨a, ws, rfl, _, s, r⟩ := rr
    exact ⟨_, ws.length, rfl, .inl ⟨ws, ex_l fh s, rfl⟩, by rw [← r.len]; exact g.scal fh fun _ _ => ⟨rfl, rfl⟩⟩
  · cases e
    obtain ⟨v, A, rfl, rr⟩ := r.one
    obtain ⟨a, ws, rfl, s, r⟩ := rr
    exact ⟨_, ws.length, rfl, .inr ⟨ws, ex_t fh s, rfl⟩, by rw [← r.len]; exact g.scal fh fun _ _ => ⟨rfl, rfl⟩⟩
  · obtain ⟨z, e⟩ := if_some e
    cases e
    obtain ⟨v, A, rfl, rr⟩ := r.one
    exact ⟨v, _, rfl, by rw [rr.1]; exact ⟨big_le z, rfl⟩, g.scal fh fun _ _ => ⟨rfl, rfl⟩⟩
  · cases e
def gAbs : List D → Option D
  | [.int i] => some (.int (if i < 0 then -i else i))
  | _ => none
@[simp] theorem gAbs_int (i : Int) : gAbs [.int i] = some (.int (if i < 0 then -i else i)) := rfl
theorem says_abs : SaysC E (fun xs H Q => ∃ i, xs = [.int i] ∧ Q (.int (if i < 0 then -i else i)) H) gAbs := by
  intro F H ds vs Q d fh r e g
  unfold gAbs at e
  split at e
  · cases e
    obtain ⟨v, A, rfl, rr⟩ := r.one
    rw [rr.1]
    exact ⟨_, rfl, g.scal fh fun _ _ => ⟨rfl, rfl⟩⟩
  · cases e
def gMax2 : List D → Option D
  | [.int i, .int j] => some (.int (if j > i then j else i))
  | _ => none
def gMin2 : List D → Option D
  | [.int i, .int j] => some (.int (if j < i then j else i))
  | _ => none
@[simp] theorem gMax2_int (i j : Int) : gMax2 [.int i, .int j] = some (.int (if j > i then j else i)) := rfl
@[simp] theorem gMin2_int (i j : Int) : gMin2 [.int i, .int j] = some (.int (if j < i then j else i)) := rfl
theorem says_max2 : SaysC E (fun xs H Q => ∃ i j, xs = [.int i, .int j] ∧ Q (.int (if j > i then j else i)) H) gMax2 := by
  intro F H ds vs Q d fh r e g
  unfold gMax2 at e
  split at e
  · cases e
    obtain ⟨v, w, A, B, rfl, rr, r2⟩ := r.two
    rw [rr.1, r2.1]
    exact ⟨_, _, rfl, g.scal fh fun _ _ => ⟨rfl, rfl⟩⟩
  · cases e
theorem says_min2 : SaysC E (fun xs H Q => ∃ i j, xs = [.int i, .int j] ∧ Q (.int (if j < i then j else i)) H) gMin2 := by
  intro F H ds vs Q d fh r e g
  unfold gMin2 at e
  split at e
  · cases e
    obtain ⟨v, w, A, B, rfl, rr, r2⟩ := r.two
    rw [rr.1, r2.1]
    exact ⟨_, _, rfl, g.scal fh fun _ _ => ⟨rfl, rfl⟩⟩
  · cases e
def gInt : List D → Option D
  | [.int i] => some (.int i)
  | [.bl b] => some (.int (if b then 1 else 0))
  | _ => none
@[simp] theorem gInt_int (i : Int) : gInt [.int i] = some (.int i) := rfl
@[simp] theorem gInt_bl (b : Bool) : gInt [.bl b] = some (.int (if b then 1 else 0)) := rfl
theorem says_int : SaysC E (fun xs H Q => (∃ i, xs = [.int i] ∧ Q (.int i) H) ∨ ∃ k, xs = [.bl k] ∧ Q (.int (if k then 1 else 0)) H) gInt := by
  intro F H ds vs Q d fh r e g
  unfold gInt at e
  split at e
  · cases e
    obtain ⟨v, A, rfl, rr⟩ := r.one
    rw [rr.1]
    exact .inl ⟨_, rfl, g.scal fh fun _ _ => ⟨rfl, rfl⟩⟩
  · cases e
    obtain ⟨v, A, rfl, rr⟩ := r.one
    rw [rr.1]
    exact .inr ⟨_, rfl, g.scal fh fun _ _ => ⟨rfl, rfl⟩⟩
  · cases e
def gList : List D → Option D
  | [x] => (items x).bind fun xs => if D.pureL xs = true then some (.lst true xs) else none
  | _ => none
@[simp] theorem gList_one (x : D) : gList [x] = (items x).bind fun xs => if D.pureL xs = true then some (.lst true xs) else none := rfl
theorem says_list : SaysC E (fun xs H Q => ∃ p ys, xs = [.ref p] ∧ (SqL E.k.K H p ys ∨ SqT E.k.K H p ys) ∧ ∀ l, H l = none → Q (.ref l) (upd H l (.lst ys))) gList := by
  intro F H ds vs Q d fh r e g
  unfold gList at e
  split at e
  · rename_i x
    obtain ⟨v, A, rfl, rr⟩ := r.one
    cases ei : items x with
    | none => rw [ei] at e; cases e
    | some xs =>
      rw [ei] at e
      obtain ⟨z, e⟩ := if_some (show (if D.pureL xs = true then some (D.lst true xs) else none) = some d from e)
      cases e
      obtain ⟨a, ws, B, rfl, s, r⟩ := rr.items fh ei
      exact ⟨a, ws, rfl, s.symm, fun l hl => g.lst fh hl (RpL.pure z (.refl _) r)⟩
  · cases e
def gTuple : List D → Option D
  | [x] => (items x).bind fun xs => if D.pureL xs = true then some (.tup xs) else none
  | _ => none
@[simp] theorem gTuple_one (x : D) : gTuple [x] = (items x).bind fun xs => if D.pureL xs = true then some (.tup xs) else none := rfl
theorem says_tuple : SaysC E (fun xs H Q => ∃ p ys, xs = [.ref p] ∧ ((SqL E.k.K H p ys ∧ ∀ l, H l = none → Q (.ref l) (upd H l (.tup ys))) ∨ (SqT E.k.K H p ys ∧ Q (.ref p) H))) gTuple := by
  intro F H ds vs Q d fh r e g
  unfold gTuple at e
  split at e
  · rename_i x
    obtain ⟨v, A, rfl, rr⟩ := r.one
    cases x with
    | lst o xs =>
      obtain ⟨z, e⟩ := if_some (show (if D.pureL xs = true then some (D.tup xs) else none) = some d from e)
      cases e
      obtain ⟨a, ws, rfl, s, r⟩ := Rp.lstR fh z rr
      exact ⟨a, ws, rfl, .inl ⟨.inl (.inl s), fun l hl => g.tup fh hl r⟩⟩
    | tup xs =>
      obtain ⟨z, e⟩ := if_some (show (if D.pureL xs = true then some (D.tup xs) else none) = some d from e)
      cases e
      obtain ⟨a, ws, rfl, s, r⟩ := rr
      exact ⟨a, ws, rfl, .inr ⟨ex_t fh s, g F H (.ref a) [] (Tr.refl fh) ⟨a, ws, rfl, s, RpL.pure z (.refl _) r⟩ .nil fun _ z => nomatch z⟩⟩
    | _ => cases e
  · cases e
def gOrd : List D → Option D
  | [.str x] => if x.length = 1 then some (.int (x.cps.getD 0 0 : Nat)) else none
  | _ => none
@[simp] theorem gOrd_str (x : Str) : gOrd [.str x] = if x.length = 1 then some (.int (x.cps.getD 0 0 : Nat)) else none := rfl
theorem says_ord : SaysC E (fun xs H Q => ∃ x, xs = [.str x] ∧ x.length = 1 ∧ Q (.int (x.cps.getD 0 0 : Nat)) H) gOrd := by
  intro F H ds vs Q d fh r e g
  unfold gOrd at e
  split at e
  · obtain ⟨z, e⟩ := if_some e
    cases e
    obtain ⟨v, A, rfl, rr⟩ := r.one
    rw [rr.1]
    exact ⟨_, rfl, z, g.scal fh fun _ _ => ⟨rfl, rfl⟩⟩
  · cases e
/-- the type of data, by its name -/
def tyD : D → String
  | .non => "NoneType" | .bl _ => "bool" | .int _ => "int" | .str _ => "str" | .tup _ => "tuple" | .lst _ _ => "list" | .scr _ => "list" | .dic _ _ _ => "dict" | .dit _ _ _ => "dict" | .ins _ _ _ => "object"
def gIsi (T : String) : List D → Option D
  | [x, .non] => match x with
    | .ins _ _ _ => none
    | _ => (kitB (tyD x) T).map .bl
  | _ => none
end
end Dv
end
section
set_option maxRecDepth 100000
set_option maxHeartbeats 1000000
namespace Dv
open PySem PySem.Spec PyProof.Rows L2

/-! ### isinstance -/
section
variable {X : Cx} {E : En} {W : WX}
theorem Rp.ty {k : Kx} {F H : Hp} (fh : Ex F H) {d : D} {v : V} {A : List Addr} (hn : ∀ c fs xs, d ≠ .ins c fs xs) (h : Rp k F H d v A) : TyX k.K H v (.type (tyD d)) := by
  cases d with
  | non => rw [h.1]; exact .base .non
  | bl b => rw [h.1]; exact .base (.bl b)
  | int i => rw [h.1]; exact .base (.int i)
  | str x => rw [h.1]; exact .base (.str x)
  | tup xs =>
    obtain ⟨a, vs, rfl, s, r⟩ := h
    rcases ex_t fh s with (s | ⟨o, s⟩) | ⟨o, its, n, hl, hc, _⟩
    · exact .base (.tup s)
    · exact .fTuple s
    · exact .kTuple hl hc
  | lst o xs =>
    obtain ⟨a, vs, B, rfl, s, r⟩ := Rp.lstW fh h
    exact .base (.lst s)
  | scr xs =>
    obtain ⟨a, vs, rfl, _, s, r⟩ := h
    rcases ex_l fh s with (s | ⟨o, s⟩) | ⟨o, its, n, hl, hc, _⟩
    · exact .base (.lst s)
    · exact .base (.frz s)
    · exact .kList hl hc
  | dic o ks xs =>
    obtain ⟨a, vs, B, rfl, l, r, h1, h2⟩ := h
    cases o with
    | false => exact .base (.dK (fh _ _ (h1 rfl).1))
    | true => exact .base (.dK (h2 rfl).2.2)
  | dit o ks xs =>
    obtain ⟨a, vs, B, rfl, l, r, h1, h2⟩ := h
    cases o with
    | false => exact .base (.dT (fh _ _ (h1 rfl).1))
    | true => exact .base (.dT (h2 rfl).2.2)
  | ins c fs xs => exact absurd rfl (hn c fs xs)
/-- isinstance(x, T) -/
def isiD (T : String) (d : D) : R D := match d with
  | .ins _ _ _ => .no
  | _ => R.opt ((kitB (tyD d) T).map D.bl)
def eIsi (T : String) (f : Env → R D) : Env → R D := fun ρ => (f ρ).bind (isiD T)
@[simp] theorem eIsi_eq (T : String) (f : Env → R D) (ρ : Env) : eIsi T f ρ = (f ρ).bind (isiD T) := rfl
theorem isiD_of {T : String} {d : D} {b : Bool} (hn : ∀ c fs xs, d ≠ .ins c fs xs) (h : kitB (tyD d) T = some b) : isiD T d = .ok (.bl b) := by
  unfold isiD
  cases d with
  | ins c fs xs => exact absurd rfl (hn c fs xs)
  | _ => simp only [h]; rfl
theorem eo_isi {T : String} {a : Expr} {fa : Env → R D} {x y : Str} {p p2 pos : Pos} (hK : E.k.K = X.K) (gl : Gl X x) (hm : X.mg x = none) (hv : bootBuiltins x = some (.builtin "isinstance")) (gl2 : Gl X y) (hm2 : X.mg y = none) (hv2 : bootBuiltins y = some (.type T)) (ha : EV X E W a fa)
    (hn : x ≠ "__name__" := by decide) (hdb : (x == ("__debug__" : Str)) = false := by decide) (hn2 : y ≠ "__name__" := by decide) (hdb2 : (y == ("__debug__" : Str)) = false := by decide)
    (he : starEach [a, .Name y p2] X.env = (false, eval a X.env) :: starEach [.Name y p2] X.env := by rfl) (he2 : starEach [.Name y p2] X.env = (false, eval (.Name y p2) X.env) :: starEach [] X.env := by rfl) (hpl : (backTo pos (starEach [.Name y p2] X.env)).any (·.1) = false := by rfl) :
    EO X E W (.Call (.Name x p) [a, .Name y p2] [] pos) (eIsi T fa) := by
  refine ⟨pe_mono (pe_callB call_isi gl hm hv (pa_cons ha.pe (pa_cons (pe_bltn (v := .ty T) gl2 hm2 hv2 rfl hn2 hdb2) pa_nil he2) he) hn hdb he hpl) fun σ H Q h => ?_⟩
  obtain ⟨F, ρ, s, q⟩ := h
  refine ⟨F, ρ, s, Res.mono q.bind (fun d _ q F1 H1 v A t1 r1 => ?_) fun c _ z F' H' t => z F' H' t⟩
  have go : (∀ c fs xs, d ≠ .ins c fs xs) → Res (R.opt ((kitB (tyD d) T).map D.bl)) (fun d => ∀ F' H' v A, Tr F H F' H' → Rp E.k F' H' d v A → A.Nodup → (∀ a ∈ A, H a = none) → Q v H') (fun c => ∀ F' H', Tr F H F' H' → W (E.ec c) none σ H') →
      rIsi X.K [v, .ty T] H1 Q := fun hi q => by
    obtain ⟨d', e, p⟩ := Res.opt q
    cases ek : kitB (tyD d) T with
    | none => rw [ek] at e; cases e
    | some b =>
      rw [ek] at e
      cases e
      exact ⟨v, .ty T, _, _, b, rfl, .ty T, by rw [← hK]; exact r1.ty t1.fh hi, kit_ty ek, p F1 H1 (.bl b) [] t1 ⟨rfl, rfl⟩ .nil fun _ z => nomatch z⟩
  cases d with
  | ins _ _ _ => exact q.elim
  | _ => exact go (fun _ _ _ z => nomatch z) q
theorem kitB_ty (a b : String) (r : Bool) (h : kitB a b = some r) : (kitB a b).map D.bl = some (.bl r) := by rw [h]; rfl

/-! ### a def's promise, its call -/
/-- what is promised of a def whose meaning is f: n arguments, all pure -/
def spD (k : Kx) (ec : Nat → Value) (n : Nat) (f : List D → R D) : Sp := fun vs H Q Ew => ∃ F ds, Ex F H ∧ RpL k F H ds vs [] ∧ D.pureL ds = true ∧ ds.length = n ∧
  Res (f ds) (fun d => ∀ F' H' v A, Tr F H F' H' → Rp k F' H' d v A → A.Nodup → (∀ a ∈ A, H a = none) → Q v H') (fun c => ∀ F' H', Tr F H F' H' → Ew (ec c) none H')
theorem spD_len {k : Kx} {ec : Nat → Value} {n : Nat} {f : List D → R D} {vs : List V} {H : Hp} {Q : VK} {Ew : XK} (h : spD k ec n f vs H Q Ew) : vs.length = n := by
  obtain ⟨F, ds, _, r, _, l, _⟩ := h
  rw [← r.len, l]
def callF (n : Nat) (f : List D → R D) (ds : List D) : R D :=
  if ds.length = n then
    if D.pureL ds = true then f ds
    else if D.coldL ds = true then (f (D.frzL ds)).bind fun r => if r.noFz = true then .ok r else .no
    else .no
  else .no
def eCall (n : Nat) (f : List D → R D) (fs : Env → R (List D)) : Env → R D := fun ρ => (fs ρ).bind (callF n f)
@[simp] theorem eCall_eq (n : Nat) (f : List D → R D) (fs : Env → R (List D)) (ρ : Env) : eCall n f fs ρ = (fs ρ).bind (callF n f) := rfl
theorem frzL_len : ∀ ds : List D, (D.frzL ds).length = ds.length
  | [] => rfl
  | d :: ds => by rw [D.frzL, List.length_cons, List.length_cons, frzL_len ds]
/-- the caller's side of a call -/
theorem call_of {n : Nat} {f : List D → R D} {F H F1 H1 : Hp} {ds : List D} {vs : List V} {Q : VK} {Ew : XK} (t1 : Tr F H F1 H1) (r : Vw E.k F1 H1 vs ds)
    (h : Res (callF n f ds) (fun d => ∀ F' H' v A, Tr F H F' H' → Rp E.k F' H' d v A → A.Nodup → (∀ a ∈ A, H a = none) → Q v H') (fun c => ∀ F' H', Tr F H F' H' → Ew (E.ec c) none H')) : spD E.k E.ec n f vs H1 Q Ew := by
  unfold callF at h
  by_cases hl : ds.length = n
  · rw [if_pos hl] at h
    obtain ⟨A, ra⟩ := Vw.rpl r
    by_cases hp : D.pureL ds = true
    · rw [if_pos hp] at h
      exact ⟨F1, ds, t1.fh, RpL.pure hp (.refl _) ra, hp, hl, Res.mono h (fun d _ p F' H' v A t r n u => p F' H' v A (t1.trans t) r n fun a ha => none_back t1.hh (u a ha)) fun c _ z F' H' t => z F' H' (t1.trans t)⟩
    · rw [if_neg hp] at h
      by_cases hc : D.coldL ds = true
      · rw [if_pos hc] at h
        have dm := RpL.dom ds vs A ra
        have n1 : ∀ a ∈ A, F1 a = none := fun a ha => (dm a ha).1
        refine ⟨fz F1 H1 A, D.frzL ds, fz_exH t1.fh, RpL.frz n1 ds vs A hc (fun _ z => z) ra, D.frzL_pure ds hc, by rw [frzL_len]; exact hl, ?_⟩
        have back : ∀ {F' H' : Hp}, Tr (fz F1 H1 A) H1 F' H' → Tr F1 H1 (fun a => if a ∈ A then none else F' a) H' := fun {F' H'} t => by
          refine ⟨fun a o e => ?_, t.hh, fun a o e => ?_, fun a e z => ?_⟩
          · have : a ∉ A := fun z => by rw [n1 a z] at e; cases e
            show (if a ∈ A then none else F' a) = some o
            rw [if_neg this]
            exact t.ff a o (by rw [fz_out this]; exact e)
          · have e' : (if a ∈ A then none else F' a) = some o := e
            by_cases q : a ∈ A
            · rw [if_pos q] at e'; cases e'
            · rw [if_neg q] at e'; exact t.fh a o e'
          · show (if a ∈ A then none else F' a) = none
            by_cases q : a ∈ A
            · rw [if_pos q]
            · rw [if_neg q]; exact t.no a (by rw [fz_out q]; exact e) z
        refine Res.mono h.bind (fun d _ p F' H' v B t rv nd u => ?_) fun c _ z F' H' t => z _ H' (t1.trans (back t))
        by_cases hz : d.noFz = true
        · rw [if_pos hz] at p
          refine p _ H' v B (t1.trans (back t)) (Rp.thin A (fun a ha o e => ?_) d v B hz rv) nd fun a ha => none_back t1.hh (u a ha)
          obtain ⟨_, o1, e1, x1, x2⟩ := dm a ha
          have e2 : F' a = some o1 := t.ff a o1 (by rw [fz_in ha]; exact e1)
          rw [e2] at e
          cases e
          exact ⟨x1, x2⟩
        · rw [if_neg hz] at p
          exact p.elim
      · rw [if_neg hc] at h
        exact h.elim
  · rw [if_neg hl] at h
    exact h.elim
theorem eo_call {k n : Nat} {fa : Addr} {fd : FuncData} {ps : List Str} {f : List D → R D} {fs : Env → R (List D)} {x : Str} {p pos : Pos} {e : Expr} {es : List Expr} (G : FnOk X.prog X.w X.K X.mg X.base (L2.CX X.prog X.w) k fa fd ps (spD E.k E.ec n f)) (tk : Takes X W) (hr : Room k X.A) (hg : Gl X x) (hm : X.mg x = some (.ref fa)) (hk : PySem.W.keepIn X.K (.ref fa) = true) (hb : Binds X.K fd ps [])
    (ha : EA X E W (e :: es) fs) (hdb : (x == ("__debug__" : Str)) = false := by decide) (he : starEach (e :: es) X.env = (false, eval e X.env) :: starEach es X.env := by rfl) (hpl : (backTo pos (starEach es X.env)).any (·.1) = false := by rfl) : EO X E W (.Call (.Name x p) (e :: es) [] pos) (eCall n f fs) := by
  refine ⟨pe_mono (pe_callS (E := WE W) G hr hg hm hk hb (fun σ => passAt tk σ) ha.pa hdb he hpl) fun σ H Q h => ?_⟩
  obtain ⟨F, ρ, s, q⟩ := h
  exact ⟨F, ρ, s, Res.mono q.bind (fun ds _ q F1 H1 vs t1 r1 => call_of (Ew := WE W σ) t1 r1 q) fun c _ z F' H' t => z F' H' t⟩

/-! ### blocks -/
def sThen (f g : Env → SR) : Env → SR := fun ρ => match f ρ with
  | .nx ρ' => g ρ'
  | r => r
def SR.andThen (r : SR) (g : Env → SR) : SR := match r with
  | .nx ρ' => g ρ'
  | r => r
@[simp] theorem SR.at_nx (ρ : Env) (g : Env → SR) : (SR.nx ρ).andThen g = g ρ := rfl
@[simp] theorem SR.at_no (g : Env → SR) : SR.no.andThen g = .no := rfl
@[simp] theorem SR.at_bk (ρ : Env) (g : Env → SR) : (SR.bk ρ).andThen g = .bk ρ := rfl
@[simp] theorem SR.at_ct (ρ : Env) (g : Env → SR) : (SR.ct ρ).andThen g = .ct ρ := rfl
@[simp] theorem SR.at_rt (d : D) (ρ : Env) (g : Env → SR) : (SR.rt d ρ).andThen g = .rt d ρ := rfl
@[simp] theorem SR.at_ex (c : Nat) (ρ : Env) (g : Env → SR) : (SR.ex c ρ).andThen g = .ex c ρ := rfl
def sq (f g : Env → SR) : Env → SR := fun ρ => (f ρ).andThen g
@[simp] theorem sq_eq (f g : Env → SR) (ρ : Env) : sq f g ρ = (f ρ).andThen g := rfl
def sNil : Env → SR := fun ρ => .nx ρ
@[simp] theorem sNil_eq (ρ : Env) : sNil ρ = .nx ρ := rfl
section
variable {st : Stmt} {rest : List Stmt} {f g : Env → SR} {pos : Pos}
theorem sb_nil : SB X E W [] sNil := ⟨pss_mono pss_nil fun Z σ H ⟨F, ρ, s, q⟩ => q F H σ (.refl _) s⟩
theorem SRes.mono {F F' : Hp} {Z Z' : Ends} {r : SR} (h : SRes E W F Z r) (hF : Ex F F') (hz : ∀ σ H, Z.nx σ H → Z'.nx σ H) (hr : ∀ v H, Z.rt v H → Z'.rt v H) (hb : ∀ σ H, Z.bk σ H → Z'.bk σ H) (hc : ∀ σ H, Z.ct σ H → Z'.ct σ H) : SRes E W F' Z' r := by
  cases r with
  | no => exact h
  | nx ρ => exact fun F2 H2 σ x s => hz _ _ (h F2 H2 σ (hF.trans x) s)
  | bk ρ => exact fun F2 H2 σ x s => hb _ _ (h F2 H2 σ (hF.trans x) s)
  | ct ρ => exact fun F2 H2 σ x s => hc _ _ (h F2 H2 σ (hF.trans x) s)
  | rt d ρ => exact fun F2 H2 σ v s x => hr _ _ (h F2 H2 σ v s x)
  | ex c ρ => exact fun F2 H2 σ x s => h F2 H2 σ (hF.trans x) s
theorem SRes.then {F : Hp} {Z : Ends} {r : SR} (h : SRes E W F Z (r.andThen g)) : SRes E W F { Z with nx := tSS E W g Z } r := by
  cases r with
  | nx ρ => exact fun F2 H2 σ x s => ⟨F2, ρ, s, SRes.mono h x (fun _ _ z => z) (fun _ _ z => z) (fun _ _ z => z) fun _ _ z => z⟩
  | _ => exact h
theorem sb_cons (h1 : SS X E W st f) (h2 : SB X E W rest g) : SB X E W (st :: rest) (sq f g) :=
  ⟨pss_mono (pss_cons h1.ps h2.ps) fun Z σ H ⟨F, ρ, s, q⟩ => ⟨F, ρ, s, SRes.then q⟩⟩
theorem sb_one (h1 : SS X E W st f) : SB X E W [st] f := ⟨pss_one h1.ps⟩
/-! small statements -/
def sPass : Env → SR := fun ρ => .nx ρ
def sBrk : Env → SR := fun ρ => .bk ρ
def sCnt : Env → SR := fun ρ => .ct ρ
@[simp] theorem sPass_eq (ρ : Env) : sPass ρ = .nx ρ := rfl
@[simp] theorem sBrk_eq (ρ : Env) : sBrk ρ = .bk ρ := rfl
@[simp] theorem sCnt_eq (ρ : Env) : sCnt ρ = .ct ρ := rfl
theorem ss_pass : SS X E W (.Pass pos) sPass := ⟨ps_mono ps_pass fun Z σ H ⟨F, ρ, s, q⟩ => q F H σ (.refl _) s⟩
theorem ss_brk : SS X E W (.Break pos) sBrk := ⟨ps_mono ps_break fun Z σ H ⟨F, ρ, s, q⟩ => q F H σ (.refl _) s⟩
theorem ss_cnt : SS X E W (.Continue pos) sCnt := ⟨ps_mono ps_continue fun Z σ H ⟨F, ρ, s, q⟩ => q F H σ (.refl _) s⟩
end
/-- an expression's end carried on -/
def R.st {α : Type} (r : R α) (ρ : Env) (k : α → SR) : SR := match r with
  | .no => .no
  | .ok a => k a
  | .ex c => .ex c ρ
@[simp] theorem R.st_no {α : Type} (ρ : Env) (k : α → SR) : (R.no).st ρ k = .no := rfl
@[simp] theorem R.st_ok {α : Type} (a : α) (ρ : Env) (k : α → SR) : (R.ok a).st ρ k = k a := rfl
@[simp] theorem R.st_ex {α : Type} (c : Nat) (ρ : Env) (k : α → SR) : (R.ex c : R α).st ρ k = .ex c ρ := rfl
theorem SRes.st {α : Type} {F : Hp} {Z : Ends} {r : R α} {ρ : Env} {k : α → SR} (h : SRes E W F Z (r.st ρ k)) : Res r (fun a => SRes E W F Z (k a)) (fun c => SRes E W F Z (.ex c ρ)) := by
  cases r with
  | no => exact h
  | ok a => exact h
  | ex c => exact h
/-- the exceptional end, from a state -/
theorem SRes.exc {F H : Hp} {Z : Ends} {c : Nat} {ρ : Env} {σ : L2.St} (s : Stt E F H σ ρ) (h : SRes E W F Z (.ex c ρ)) : ∀ F' H', Tr F H F' H' → W (E.ec c) none σ H' := fun F' H' t => h F' H' σ t.ff (s.tr t)
/-- a slot gets what was made -/
theorem Stt.set {F H F' H' : Hp} {σ : L2.St} {ρ : Env} {i : Nat} {d : D} {v : V} {A : List Addr} (s : Stt E F H σ ρ) (t : Tr F H F' H') (r : Rp E.k F' H' d v A) (nd : A.Nodup) (u : ∀ a ∈ A, H a = none) (hb : i ∉ E.bs) : Stt E F' H' (σ.set i (some v)) (ρ.set i (some d)) := by
  have s' := s.tr t
  obtain ⟨fp, sl⟩ := s.sl
  by_cases hi : i < ρ.length
  · refine ⟨s'.e0, s'.fh, s'.fr, s'.st, s'.bt, by rw [List.length_set, List.length_set]; exact s'.len, fun j hj => ?_, fun j => if j = i then A else fp j, fun j d' e => ?_, fun j e => ?_, fun j => ?_, fun j j' a ha ha' => ?_, fun j a ha => ?_⟩
    · rw [List.getElem?_set_ne (fun z => hb (by rw [z]; exact hj))]
      exact s'.bv j hj
    · by_cases q : j = i
      · subst q
        rw [List.getElem?_set_self hi] at e
        cases e
        refine ⟨v, by rw [List.getElem?_set_self (by rw [← s'.len]; exact hi)], ?_⟩
        show Rp E.k F' H' d v (if j = j then A else fp j)
        rw [if_pos rfl]; exact r
      · rw [List.getElem?_set_ne (Ne.symm q)] at e
        obtain ⟨v', e', r'⟩ := sl.rp j d' e
        refine ⟨v', by rw [List.getElem?_set_ne (Ne.symm q)]; exact e', ?_⟩
        show Rp E.k F' H' d' v' (if j = i then A else fp j)
        rw [if_neg q]
        exact r'.tr t
    · show (if j = i then A else fp j) = []
      by_cases q : j = i
      · subst q
        rw [List.getElem?_set_self hi] at e
        cases e
      · rw [List.getElem?_set_ne (Ne.symm q)] at e
        rw [if_neg q]
        exact sl.em j e
    · show (if j = i then A else fp j).Nodup
      by_cases q : j = i
      · rw [if_pos q]; exact nd
      · rw [if_neg q]; exact sl.nd j
    · have ha : a ∈ (if j = i then A else fp j) := ha
      have ha' : a ∈ (if j' = i then A else fp j') := ha'
      by_cases q : j = i
      · by_cases q' : j' = i
        · rw [q, q']
        · rw [if_pos q] at ha
          rw [if_neg q'] at ha'
          exact absurd (u a ha) (sl.there ha').2
      · rw [if_neg q] at ha
        by_cases q' : j' = i
        · rw [if_pos q'] at ha'
          exact absurd (u a ha') (sl.there ha).2
        · rw [if_neg q'] at ha'
          exact sl.dj j j' a ha ha'
    · have ha : a ∈ (if j = i then A else fp j) := ha
      by_cases q : j = i
      · rw [if_pos q] at ha
        exact .inl (s.new (u a ha))
      · rw [if_neg q] at ha
        exact sl.nw j a ha
  · have e1 : ρ.set i (some d) = ρ := List.set_eq_of_length_le (by omega)
    have e2 : σ.set i (some v) = σ := List.set_eq_of_length_le (by have := s.len; omega)
    rw [e1, e2]
    exact s'
/-- a slot's object is written at l: the new data own what they owned, or what is new -/
theorem Stt.write {F H : Hp} {σ : L2.St} {ρ : Env} {fp : Nat → List Addr} {i : Nat} {d' : D} {v : V} {A' : List Addr} {l : Addr} {o : HO} (s : Stt E F H σ ρ) (sl : Sl E F H σ ρ fp) (hl : l ∈ fp i) (hv : σ[i]? = some (some v)) (r : Rp E.k F (upd H l o) d' v A') (nd : A'.Nodup)
    (hA : ∀ a ∈ A', a ∈ fp i ∨ (E.He a = none ∧ ∀ j, a ∉ fp j)) : Stt E F (upd H l o) σ (ρ.set i (some d')) := by
  have fl := (sl.there hl).1
  have hi : i < ρ.length := by rw [s.len]; exact (List.getElem?_eq_some_iff.mp hv).1
  refine ⟨s.e0, fun a o' e => ?_, s.fr, fun a o' e b => ?_, fun a b => ?_, by rw [List.length_set]; exact s.len, s.bv, fun j => if j = i then A' else fp j, fun j d2 e => ?_, fun j e => ?_, fun j => ?_, fun j j' a ha ha' => ?_, fun j a ha => ?_⟩
  · rw [upd_ne fun z => by rw [z, fl] at e; cases e]
    exact s.fh a o' e
  · rw [upd_ne fun z => by
      rcases sl.nw i l hl with h | h
      · rw [z, h] at e; cases e
      · exact b (z ▸ h.1)]
    exact s.st a o' e b
  · by_cases q : a = l
    · rw [q, upd_same]; exact fun z => nomatch z
    · rw [upd_ne q]; exact s.bt a b
  · by_cases q : j = i
    · subst q
      rw [List.getElem?_set_self hi] at e
      cases e
      refine ⟨v, hv, ?_⟩
      show Rp E.k F (upd H l o) d' v (if j = j then A' else fp j)
      rw [if_pos rfl]; exact r
    · rw [List.getElem?_set_ne (Ne.symm q)] at e
      obtain ⟨v', e', r'⟩ := sl.rp j d2 e
      refine ⟨v', e', ?_⟩
      show Rp E.k F (upd H l o) d2 v' (if j = i then A' else fp j)
      rw [if_neg q]
      refine Rp.mono (.refl _) d2 v' _ (fun a ha o2 e2 n => ⟨?_, n⟩) r'
      rw [upd_ne fun z => q (sl.dj j i l (by rw [← z]; exact ha) hl)]
      exact e2
  · show (if j = i then A' else fp j) = []
    by_cases q : j = i
    · subst q
      rw [List.getElem?_set_self hi] at e
      cases e
    · rw [List.getElem?_set_ne (Ne.symm q)] at e
      rw [if_neg q]
      exact sl.em j e
  · show (if j = i then A' else fp j).Nodup
    by_cases q : j = i
    · rw [if_pos q]; exact nd
    · rw [if_neg q]; exact sl.nd j
  · have ha : a ∈ (if j = i then A' else fp j) := ha
    have ha' : a ∈ (if j' = i then A' else fp j') := ha'
    by_cases q : j = i
    · by_cases q' : j' = i
      · rw [q, q']
      · rw [if_pos q] at ha
        rw [if_neg q'] at ha'
        rcases hA a ha with h | h
        · exact absurd (sl.dj i j' a h ha').symm q'
        · exact absurd ha' (h.2 j')
    · rw [if_neg q] at ha
      by_cases q' : j' = i
      · rw [if_pos q'] at ha'
        rcases hA a ha' with h | h
        · exact absurd (sl.dj j i a ha h) q
        · exact absurd ha (h.2 j)
      · rw [if_neg q'] at ha'
        exact sl.dj j j' a ha ha'
  · have ha : a ∈ (if j = i then A' else fp j) := ha
    by_cases q : j = i
    · rw [if_pos q] at ha
      rcases hA a ha with h | h
      · rw [q]; exact sl.nw i a h
      · exact .inl h.1
    · rw [if_neg q] at ha
      exact sl.nw j a ha
/-- a slot is frozen -/
def frzAt (i : Nat) (ρ : Env) : Env := match ρ[i]?.getD none with
  | some d => if d.cold = true then ρ.set i (some d.frz) else ρ
  | none => ρ
theorem Stt.frz {F H : Hp} {σ : L2.St} {ρ : Env} (i : Nat) (hb : i ∉ E.bs) (s : Stt E F H σ ρ) : ∃ F', Ex F F' ∧ Stt E F' H σ (frzAt i ρ) := by
  unfold frzAt
  cases e : ρ[i]?.getD none with
  | none => exact ⟨F, .refl _, s⟩
  | some d =>
    by_cases c : d.cold = true
    · show ∃ F', Ex F F' ∧ Stt E F' H σ (if d.cold = true then ρ.set i (some d.frz) else ρ)
      rw [if_pos c]
      obtain ⟨fp, sl⟩ := s.sl
      have e' := some_some e
      obtain ⟨v, ev, r⟩ := sl.rp i d e'
      have hi : i < ρ.length := (List.getElem?_eq_some_iff.mp e').1
      have n : ∀ a ∈ fp i, F a = none := fun a ha => (sl.there ha).1
      have he : ∀ a ∈ fp i, E.He a = none := fun a ha => (sl.nw i a ha).elim (fun z => z) fun z => absurd z.2 hb
      refine ⟨fz F H (fp i), fz_ex n, s.e0.trans (fz_ex n), fz_exH s.fh, fun a z w => ?_, s.st, s.bt, by rw [List.length_set]; exact s.len, s.bv, fun j => if j = i then [] else fp j, fun j d2 e2 => ?_, fun j e2 => ?_, fun j => ?_, fun j j' a ha ha' => ?_, fun j a ha => ?_⟩
      · by_cases q : a ∈ fp i
        · exact absurd (he a q) w
        · rw [fz_out q]; exact s.fr a z w
      · show ∃ v, σ[j]? = some (some v) ∧ Rp E.k (fz F H (fp i)) H d2 v (if j = i then [] else fp j)
        by_cases q : j = i
        · subst q
          rw [List.getElem?_set_self hi] at e2
          cases e2
          rw [if_pos rfl]
          exact ⟨v, ev, Rp.frz n d v _ c (fun _ z => z) r⟩
        · rw [List.getElem?_set_ne (Ne.symm q)] at e2
          obtain ⟨v', ev', r'⟩ := sl.rp j d2 e2
          rw [if_neg q]
          refine ⟨v', ev', Rp.mono (fz_ex n) d2 v' _ (fun a ha o e3 n3 => ⟨e3, ?_⟩) r'⟩
          rw [fz_out fun z => q (sl.dj j i a ha z)]
          exact n3
      · show (if j = i then [] else fp j) = []
        by_cases q : j = i
        · rw [if_pos q]
        · rw [if_neg q]
          rw [List.getElem?_set_ne (Ne.symm q)] at e2
          exact sl.em j e2
      · show (if j = i then [] else fp j).Nodup
        by_cases q : j = i
        · rw [if_pos q]; exact .nil
        · rw [if_neg q]; exact sl.nd j
      · have ha : a ∈ (if j = i then [] else fp j) := ha
        have ha' : a ∈ (if j' = i then [] else fp j') := ha'
        by_cases q : j = i
        · rw [if_pos q] at ha; cases ha
        · by_cases q' : j' = i
          · rw [if_pos q'] at ha'; cases ha'
          · rw [if_neg q] at ha
            rw [if_neg q'] at ha'
            exact sl.dj j j' a ha ha'
      · have ha : a ∈ (if j = i then [] else fp j) := ha
        by_cases q : j = i
        · rw [if_pos q] at ha; cases ha
        · rw [if_neg q] at ha
          exact sl.nw j a ha
    · show ∃ F', Ex F F' ∧ Stt E F' H σ (if d.cold = true then ρ.set i (some d.frz) else ρ)
      rw [if_neg c]
      exact ⟨F, .refl _, s⟩
end
end Dv
end
section
set_option maxRecDepth 100000
set_option maxHeartbeats 1000000
namespace Dv
open PySem PySem.Spec PyProof.Rows L2

section
variable {X : Cx} {E : En} {W : WX}
/-! ### name = e -/
def sAsg (i : Nat) (f : Env → R D) : Env → SR := fun ρ => (f ρ).st ρ fun d => .nx (ρ.set i (some d))
@[simp] theorem sAsg_eq (i : Nat) (f : Env → R D) (ρ : Env) : sAsg i f ρ = (f ρ).st ρ fun d => .nx (ρ.set i (some d)) := rfl
theorem ss_asg {i : Nat} {x : Str} {e : Expr} {f : Env → R D} {pos pos' : Pos} (hN : X.N.Nodup) (hi : X.N[i]? = some x) (hx : Loc X.env.scope x) (hb : i ∉ E.bs) (h : EO X E W e f) (hs : swapsWith e (some (.Name x pos')) pos.line X.env = pure false := by rfl) (hf : X.fn x = true ∨ X.env.scope.names.lookup x = some .local := by first | exact .inl rfl | exact .inr rfl | assumption) :
    SS X E W (.Assign [.Name x pos'] e pos) (sAsg i f) := by
  refine ⟨ps_mono (ps_set hN hi hx h.pe hs hf) fun Z σ H h => ?_⟩
  obtain ⟨F, ρ, s, q⟩ := h
  refine ⟨F, ρ, s, Res.mono q.st (fun d _ q F1 H1 v A t1 r1 nd u => ?_) fun c _ z => SRes.exc s z⟩
  exact q F1 H1 _ t1.ff (s.set t1 r1 nd u hb)
/-- name op= e, by the operator's in-place rule -/
def IpR (X : Cx) (op : Operator) (r : R2) : Prop := PIp X op r
theorem ss_aug {i : Nat} {x : Str} {e : Expr} {op : Operator} {r : R2} {g : D → D → Option D} {f : Env → R D} {pos pos' : Pos} (hN : X.N.Nodup) (hi : X.N[i]? = some x) (hx : Loc X.env.scope x) (hb : i ∉ E.bs) (ho : PIp X op r) (hg : Says2 E r g) (h : EV X E W e f) (hf : X.fn x = true ∨ X.env.scope.names.lookup x = some .local := by first | exact .inl rfl | exact .inr rfl | assumption) :
    SS X E W (.AugAssign (.Name x pos') op e pos) (sAsg i (e2 g (eVar i) f)) := by
  refine ⟨ps_mono (ps_aug hN hi hx h.pe ho hf) fun Z σ H h => ?_⟩
  obtain ⟨F, ρ, s, q⟩ := h
  have q := q.st
  rw [e2_eq] at q
  obtain ⟨d0, e0, q⟩ := Res.opt q.bind
  obtain ⟨fp, sl⟩ := s.sl
  obtain ⟨v0, ev0, r0⟩ := sl.rp i d0 (some_some e0)
  refine ⟨v0, ev0, F, ρ, s, Res.mono (Res.bind q) (fun y _ q F1 H1 w B t1 r1 => ?_) fun c _ z => SRes.exc s z⟩
  obtain ⟨d, e, p⟩ := Res.opt q
  exact hg F1 H1 d0 y v0 w _ B _ d t1.fh (r0.tr t1) r1 e fun F2 H2 v A t2 r nd u => p F2 H2 _ (t1.trans t2).ff (s.set (t1.trans t2) r nd (fun a ha => none_back t1.hh (u a ha)) hb)
theorem ip_addA : PIp X .Add (ipI fun i j => i + j) := ip_add
theorem says_ipI {f : Int → Int → Int} : Says2 E (ipI f) (gI0 f) := says_I0
/-- int += int -/
theorem ss_augAdd {i : Nat} {x : Str} {e : Expr} {f : Env → R D} {pos pos' : Pos} (hN : X.N.Nodup) (hi : X.N[i]? = some x) (hx : Loc X.env.scope x) (hb : i ∉ E.bs) (h : EV X E W e f) (hf : X.fn x = true ∨ X.env.scope.names.lookup x = some .local := by first | exact .inl rfl | exact .inr rfl | assumption) :
    SS X E W (.AugAssign (.Name x pos') .Add e pos) (sAsg i (e2 (gI0 fun i j => i + j) (eVar i) f)) := ss_aug hN hi hx hb ip_add says_ipI h hf
theorem ss_augSub {i : Nat} {x : Str} {e : Expr} {f : Env → R D} {pos pos' : Pos} (hN : X.N.Nodup) (hi : X.N[i]? = some x) (hx : Loc X.env.scope x) (hb : i ∉ E.bs) (h : EV X E W e f) (hf : X.fn x = true ∨ X.env.scope.names.lookup x = some .local := by first | exact .inl rfl | exact .inr rfl | assumption) :
    SS X E W (.AugAssign (.Name x pos') .Sub e pos) (sAsg i (e2 gSub (eVar i) f)) := ss_aug hN hi hx hb ip_sub says_ipI h hf

/-! ### targets -/
def tG (E : En) (g : D → Env → Option Env) : TG := fun v σ H Q => ∃ F ρ d, Stt E F H σ ρ ∧ d.pure = true ∧ Rp E.k F H d v [] ∧ ∃ ρ', g d ρ = some ρ' ∧ ∀ σ', Stt E F H σ' ρ' → Q σ' H
def tGs (E : En) (g : List D → Env → Option Env) : TGs := fun vs σ H Q => ∃ F ρ ds, Stt E F H σ ρ ∧ D.pureL ds = true ∧ RpL E.k F H ds vs [] ∧ ∃ ρ', g ds ρ = some ρ' ∧ ∀ σ', Stt E F H σ' ρ' → Q σ' H
structure EG (X : Cx) (E : En) (e : Expr) (g : D → Env → Option Env) : Prop where
  pg : PG X e (tG E g)
structure EGs (X : Cx) (E : En) (es : List Expr) (g : List D → Env → Option Env) : Prop where
  pg : PGs X es (tGs E g)
theorem pg_mono {e : Expr} {t t' : TG} (h : PG X e t) (i : ∀ v σ H Q, t' v σ H Q → t v σ H Q) : PG X e t' := ⟨fun pins s σ H v u Q I r q => h.run pins s σ H v u Q I r (i v σ H Q q)⟩
theorem pgs_mono {e : List Expr} {t t' : TGs} (h : PGs X e t) (i : ∀ v σ H Q, t' v σ H Q → t v σ H Q) : PGs X e t' := ⟨fun pins s σ H v u Q I r q => h.run pins s σ H v u Q I r (i v σ H Q q)⟩
def gNm (i : Nat) : D → Env → Option Env := fun d ρ => some (ρ.set i (some d))
@[simp] theorem gNm_eq (i : Nat) (d : D) (ρ : Env) : gNm i d ρ = some (ρ.set i (some d)) := rfl
theorem eg_name {i : Nat} {x : Str} {pos : Pos} (hN : X.N.Nodup) (hi : X.N[i]? = some x) (hx : Loc X.env.scope x) (hb : i ∉ E.bs) (hf : X.fn x = true ∨ X.env.scope.names.lookup x = some .local := by first | exact .inl rfl | exact .inr rfl | assumption) : EG X E (.Name x pos) (gNm i) := by
  refine ⟨pg_mono (pg_name hN hi hx hf) fun v σ H Q h => ?_⟩
  obtain ⟨F, ρ, d, s, p, r, ρ', e, q⟩ := h
  cases e
  exact q _ (s.set (Tr.refl s.fh) r .nil (fun _ z => nomatch z) hb)
def gsNil : List D → Env → Option Env
  | [], ρ => some ρ
  | _, _ => none
def gsCons (g : D → Env → Option Env) (gs : List D → Env → Option Env) : List D → Env → Option Env
  | d :: ds, ρ => (g d ρ).bind fun ρ' => gs ds ρ'
  | [], _ => none
@[simp] theorem gsNil_nil (ρ : Env) : gsNil [] ρ = some ρ := rfl
@[simp] theorem gsCons_cons (g : D → Env → Option Env) (gs : List D → Env → Option Env) (d : D) (ds : List D) (ρ : Env) : gsCons g gs (d :: ds) ρ = (g d ρ).bind fun ρ' => gs ds ρ' := rfl
@[simp] theorem gsCons_nil (g : D → Env → Option Env) (gs : List D → Env → Option Env) (ρ : Env) : gsCons g gs [] ρ = none := rfl
theorem egs_nil : EGs X E [] gsNil := by
  refine ⟨pgs_mono pgs_nil fun vs σ H Q h => ?_⟩
  obtain ⟨F, ρ, ds, s, p, r, ρ', e, q⟩ := h
  cases ds with
  | nil => cases e; exact ⟨r.1, q σ s⟩
  | cons d ds => cases e
theorem egs_cons {e : Expr} {es : List Expr} {g : D → Env → Option Env} {gs : List D → Env → Option Env} (h1 : EG X E e g) (h2 : EGs X E es gs)
    (hs : (assignEach (e :: es) X.env).map (·.2) = assign e X.env :: (assignEach es X.env).map (·.2) := by rfl) : EGs X E (e :: es) (gsCons g gs) := by
  refine ⟨pgs_mono (pgs_cons h1.pg h2.pg hs) fun vs σ H Q h => ?_⟩
  obtain ⟨F, ρ, ds, s, p, r, ρ', e, q⟩ := h
  cases ds with
  | nil => cases e
  | cons d ds =>
    obtain ⟨v, ws, B, C, e1, e2, r1, r2⟩ := r
    obtain ⟨rfl, rfl⟩ := List.append_eq_nil_iff.mp e2.symm
    have p' : d.pure = true ∧ D.pureL ds = true := by simpa [D.pureL] using p
    rw [gsCons_cons] at e
    cases eg : g d ρ with
    | none => rw [eg] at e; cases e
    | some ρ1 =>
      rw [eg] at e
      exact ⟨v, ws, e1, F, ρ, d, s, p'.1, r1, ρ1, eg, fun σ' s' => ⟨F, ρ1, ds, s', p'.2, r2, ρ', e, q⟩⟩
def gTp (gs : List D → Env → Option Env) : D → Env → Option Env
  | .tup ds, ρ => gs ds ρ
  | _, _ => none
@[simp] theorem gTp_tup (gs : List D → Env → Option Env) (ds : List D) (ρ : Env) : gTp gs (.tup ds) ρ = gs ds ρ := rfl
theorem gs_len {X : Cx} : ∀ {es : List Expr} {gs : List D → Env → Option Env}, True → True := fun _ => trivial
theorem eg_tup {es : List Expr} {k : Nat} {gs : List D → Env → Option Env} {pos : Pos} (hK : E.k.K = X.K) (hc : X.calm = true) (h : EGs X E es gs) (n : Nat) (hlen : ∀ ds ρ ρ', gs ds ρ = some ρ' → ds.length = n)
    (hn : (assignEach es X.env).length = n := by rfl) (hst : (assignEach es X.env).findIdx? (·.1) = none := by rfl) : EG X E (.Tuple es k pos) (gTp gs) := by
  refine ⟨pg_mono (pg_tup hc h.pg hn hst) fun v σ H Q h => ?_⟩
  obtain ⟨F, ρ, d, s, p, r, ρ', e, q⟩ := h
  cases d with
  | tup ds =>
    obtain ⟨a, vs, rfl, s1, r⟩ := r
    exact ⟨a, vs, rfl, by rw [← hK]; exact ex_t s.fh s1, by rw [← r.len]; exact hlen ds ρ ρ' e, F, ρ, ds, s, p, r, ρ', e, q⟩
  | _ => cases e
theorem gsNil_len (ds : List D) (ρ ρ' : Env) (h : gsNil ds ρ = some ρ') : ds.length = 0 := by
  cases ds with
  | nil => rfl
  | cons d ds => cases h
theorem gsCons_len {g : D → Env → Option Env} {gs : List D → Env → Option Env} {n : Nat} (hg : ∀ ds ρ ρ', gs ds ρ = some ρ' → ds.length = n) (ds : List D) (ρ ρ' : Env) (h : gsCons g gs ds ρ = some ρ') : ds.length = n + 1 := by
  cases ds with
  | nil => cases h
  | cons d ds =>
    rw [gsCons_cons] at h
    cases eg : g d ρ with
    | none => rw [eg] at h; cases h
    | some ρ1 =>
      rw [eg] at h
      rw [List.length_cons, hg ds ρ1 ρ' h]
/-- a, b = e -/
def sUn (g : D → Env → Option Env) (f : Env → R D) : Env → SR := fun ρ => (f ρ).st ρ fun d => if d.pure = true then (match g d ρ with
  | some ρ' => .nx ρ'
  | none => .no) else .no
@[simp] theorem sUn_eq (g : D → Env → Option Env) (f : Env → R D) (ρ : Env) : sUn g f ρ = (f ρ).st ρ fun d => if d.pure = true then (match g d ρ with
  | some ρ' => .nx ρ'
  | none => .no) else .no := rfl
theorem ss_un {tg e : Expr} {f : Env → R D} {g : D → Env → Option Env} {pos : Pos} (h : EV X E W e f) (hg : EG X E tg g) (hs : swapsWithSole [tg] e pos.line X.env = pure false := by rfl) (hw : swappedStores [tg] e X.env = pure none := by rfl)
    (h1 : (assignEach [tg] X.env).map (·.2) = [assign tg X.env] := by rfl) : SS X E W (.Assign [tg] e pos) (sUn g f) := by
  refine ⟨ps_mono (ps_asg h.pe hg.pg hs hw h1) fun Z σ H h => ?_⟩
  obtain ⟨F, ρ, s, q⟩ := h
  refine ⟨F, ρ, s, Res.mono q.st (fun d _ q F1 H1 v A t1 r1 => ?_) fun c _ z => SRes.exc s z⟩
  by_cases c : d.pure = true
  · rw [if_pos c] at q
    cases eg : g d ρ with
    | none => rw [eg] at q; exact q.elim
    | some ρ' =>
      rw [eg] at q
      exact ⟨F1, ρ, d, s.tr t1, c, Rp.pure c (.refl _) r1, ρ', eg, fun σ' s' => q F1 H1 σ' t1.ff s'⟩
  · rw [if_neg c] at q
    exact q.elim
/-- a, b = x, y -/
def sPar (i j : Nat) (fs : Env → R (List D)) : Env → SR := fun ρ => (fs ρ).st ρ fun ds => match ds with
  | [x, y] => if x.pure = true ∧ y.pure = true then .nx ((ρ.set i (some x)).set j (some y)) else .no
  | _ => .no
@[simp] theorem sPar_eq (i j : Nat) (fs : Env → R (List D)) (ρ : Env) : sPar i j fs ρ = (fs ρ).st ρ fun ds => match ds with
  | [x, y] => if x.pure = true ∧ y.pure = true then .nx ((ρ.set i (some x)).set j (some y)) else .no
  | _ => .no := rfl
theorem ss_par {i j : Nat} {x y : Str} {a b : Expr} {fs : Env → R (List D)} {px py pt pos : Pos} {kt k2 : Nat} {pt2 : Pos} (hc : X.calm = true) (hN : X.N.Nodup) (hi : X.N[i]? = some x) (hj : X.N[j]? = some y) (hij : i ≠ j)
    (hx : X.env.scope.names.lookup x = some .local) (hy : X.env.scope.names.lookup y = some .local) (hbi : i ∉ E.bs) (hbj : j ∉ E.bs) (ha : EA X E W [a, b] fs)
    (hw : swappedStores [.Tuple [.Name x px, .Name y py] kt pt] (.Tuple [a, b] k2 pt2) X.env = pure (some [x, y]))
    (hs : swapsWithSole [.Tuple [.Name x px, .Name y py] kt pt] (.Tuple [a, b] k2 pt2) pos.line X.env = pure false := by rfl) :
    SS X E W (.Assign [.Tuple [.Name x px, .Name y py] kt pt] (.Tuple [a, b] k2 pt2) pos) (sPar i j fs) := by
  refine ⟨ps_mono (ps_par hc hN hi hj hij hx hy ha.pa hw hs) fun Z σ H h => ?_⟩
  obtain ⟨F, ρ, s, q⟩ := h
  refine ⟨F, ρ, s, Res.mono q.st (fun ds he q F1 H1 vs t1 r1 => ?_) fun c _ z => SRes.exc s z⟩
  clear he
  split at q
  · rename_i x y
    by_cases c : x.pure = true ∧ y.pure = true
    · rw [if_pos c] at q
      obtain ⟨v, w, A, B, rfl, rx, ry⟩ := Vw.two r1
      refine ⟨v, w, rfl, q F1 H1 _ t1.ff ?_⟩
      have s1 := s.set t1 (Rp.pure c.1 (.refl _) rx) .nil (fun _ z => nomatch z) hbi
      exact s1.set (Tr.refl t1.fh) (Rp.pure c.2 (.refl _) ry) .nil (fun _ z => nomatch z) hbj
    · rw [if_neg c] at q
      exact q.elim
  · exact q.elim

/-! ### return, if, an expression alone -/
def sRet (f : Env → R D) : Env → SR := fun ρ => (f ρ).st ρ fun d => .rt d ρ
@[simp] theorem sRet_eq (f : Env → R D) (ρ : Env) : sRet f ρ = (f ρ).st ρ fun d => .rt d ρ := rfl
theorem Stt.fin {F H F' H' : Hp} {σ : L2.St} {ρ : Env} {d : D} {v : V} {A : List Addr} (s : Stt E F H σ ρ) (t : Tr F H F' H') (r : Rp E.k F' H' d v A) (nd : A.Nodup) (u : ∀ a ∈ A, H a = none) : Fin E F' H' d v := by
  have s' := s.tr t
  exact ⟨s'.e0, s'.fh, s'.fr, s'.st, s'.bt, A, r, nd, fun a ha => s.new (u a ha)⟩
theorem ss_ret {e : Expr} {f : Env → R D} {pos : Pos} (h : EO X E W e f) : SS X E W (.Return (some e) pos) (sRet f) := by
  refine ⟨ps_mono (ps_ret h.pe) fun Z σ H h => ?_⟩
  obtain ⟨F, ρ, s, q⟩ := h
  refine ⟨F, ρ, s, Res.mono q.st (fun d _ q F1 H1 v A t1 r1 nd u => ?_) fun c _ z => SRes.exc s z⟩
  exact q F1 H1 σ v (s.tr t1) (s.fin t1 r1 nd u)
/-- return of a name, with what it owns -/
theorem ss_retV {i : Nat} {e : Expr} {pos : Pos} (hb : i ∉ E.bs) (h : PE X e (tVar i)) : SS X E W (.Return (some e) pos) (sRet (eVar i)) := by
  refine ⟨ps_mono (ps_ret h) fun Z σ H h => ?_⟩
  obtain ⟨F, ρ, s, q⟩ := h
  obtain ⟨d, e, q⟩ := Res.opt q.st
  obtain ⟨fp, sl⟩ := s.sl
  obtain ⟨v, ev, r⟩ := sl.rp i d (some_some e)
  refine ⟨v, ev, q F H σ v s ⟨s.e0, s.fh, s.fr, s.st, s.bt, fp i, r, sl.nd i, fun a ha => (sl.nw i a ha).elim (fun z => z) fun z => absurd z.2 hb⟩⟩
def sRetN : Env → SR := fun ρ => .rt .non ρ
@[simp] theorem sRetN_eq (ρ : Env) : sRetN ρ = .rt .non ρ := rfl
theorem ss_retN {pos : Pos} : SS X E W (.Return none pos) sRetN := by
  refine ⟨ps_mono ps_retN fun Z σ H h => ?_⟩
  obtain ⟨F, ρ, s, q⟩ := h
  exact q F H σ .non s (s.fin (Tr.refl s.fh) ⟨rfl, rfl⟩ .nil fun _ z => nomatch z)
def sIf (t : Env → R Bool) (f g : Env → SR) : Env → SR := fun ρ => (t ρ).st ρ fun b => if b = true then f ρ else g ρ
@[simp] theorem sIf_eq (t : Env → R Bool) (f g : Env → SR) (ρ : Env) : sIf t f g ρ = (t ρ).st ρ fun b => if b = true then f ρ else g ρ := rfl
theorem SRes.at {F F' : Hp} {Z : Ends} {r : SR} (h : SRes E W F Z r) (x : Ex F F') : SRes E W F' Z r := SRes.mono h x (fun _ _ z => z) (fun _ _ z => z) (fun _ _ z => z) fun _ _ z => z
theorem ss_if {c : Expr} {a b : List Stmt} {t : Env → R Bool} {f g : Env → SR} {pos : Pos} (hc : ET X E W c t) (ha : SB X E W a f) (hb : SB X E W b g) : SS X E W (.If c a b pos) (sIf t f g) := by
  refine ⟨ps_mono (ps_if hc.pt ha.ps hb.ps) fun Z σ H h => ?_⟩
  obtain ⟨F, ρ, s, q⟩ := h
  refine ⟨F, ρ, s, Res.mono q.st (fun b _ q F1 H1 t1 => ?_) fun c _ z => SRes.exc s z⟩
  cases b with
  | true => exact ⟨F1, ρ, s.tr t1, SRes.at q t1.ff⟩
  | false => exact ⟨F1, ρ, s.tr t1, SRes.at q t1.ff⟩
def sDrop (f : Env → R D) : Env → SR := fun ρ => (f ρ).st ρ fun _ => .nx ρ
@[simp] theorem sDrop_eq (f : Env → R D) (ρ : Env) : sDrop f ρ = (f ρ).st ρ fun _ => .nx ρ := rfl
theorem ss_drop {e : Expr} {f : Env → R D} {pos : Pos} (h : EV X E W e f) (hs : swapsWith e none pos.line X.env = pure false := by rfl) : SS X E W (.Expr e pos) (sDrop f) := by
  refine ⟨ps_mono (ps_expr h.pe hs) fun Z σ H h => ?_⟩
  obtain ⟨F, ρ, s, q⟩ := h
  exact ⟨F, ρ, s, Res.mono q.st (fun d _ q F1 H1 v A t1 r1 => q F1 H1 σ t1.ff (s.tr t1)) fun c _ z => SRes.exc s z⟩
/-- a name's list is frozen ahead of a statement (nothing in the program) -/
def sFz (i : Nat) (f : Env → SR) : Env → SR := fun ρ => f (frzAt i ρ)
@[simp] theorem sFz_eq (i : Nat) (f : Env → SR) (ρ : Env) : sFz i f ρ = f (frzAt i ρ) := rfl
theorem ss_fz {st : Stmt} {f : Env → SR} (i : Nat) (hb : i ∉ E.bs) (h : SS X E W st f) : SS X E W st (sFz i f) := by
  refine ⟨ps_mono h.ps fun Z σ H h => ?_⟩
  obtain ⟨F, ρ, s, q⟩ := h
  obtain ⟨F', x, s'⟩ := s.frz i hb
  exact ⟨F', _, s', SRes.at q x⟩
end
end Dv
end
section
set_option maxRecDepth 100000
set_option maxHeartbeats 1000000
namespace Dv
open PySem PySem.Spec PyProof.Rows L2

/-! ### what a for walks -/
/-- J yields the data ds, whatever is added to F -/
structure Wk (k : Kx) (J : It) (F : Hp) (ds : List D) : Prop where
  go : ∀ i, i < ds.length → ∀ F' H, Ex F F' → Ex F' H → J.go i H
  stop : ∀ F' H, Ex F F' → Ex F' H → J.stop ds.length H
  yld : ∀ i d, ds[i]? = some d → ∀ F' H x H', Ex F F' → Ex F' H → J.yld i H x H' → d.pure = true ∧ ∃ F'', Tr F' H F'' H' ∧ Rp k F'' H' d x []
def tI (E : En) (W : WX) (f : Env → R (List D)) : TI := fun σ H P => ∃ F ρ, Stt E F H σ ρ ∧
  Res (f ρ) (fun ds => ∀ F' H' J, Tr F H F' H' → Wk E.k J F' ds → P J H') (fun c => ∀ F' H', Tr F H F' H' → W (E.ec c) none σ H')
structure EI (X : Cx) (E : En) (W : WX) (tg e : Expr) (f : Env → R (List D)) : Prop where
  pi : PI X tg e (tI E W f)
theorem pi_mono {X : Cx} {tg e : Expr} {t t' : TI} (h : PI X tg e t) (i : ∀ σ H Q, t' σ H Q → t σ H Q) : PI X tg e t' := ⟨fun pins s σ H Q I q => h.run pins s σ H Q I (i σ H Q q)⟩
theorem pureL_get {ds : List D} {i : Nat} {d : D} (p : D.pureL ds = true) (e : ds[i]? = some d) : d.pure = true := by
  induction ds generalizing i with
  | nil => simp at e
  | cons x xs ih =>
    have p' : x.pure = true ∧ D.pureL xs = true := by simpa [D.pureL] using p
    cases i with
    | zero => have e' : x = d := by simpa using e
              rw [← e']; exact p'.1
    | succ i => exact ih p'.2 (by simpa using e)
section
variable {X : Cx} {E : En} {W : WX}
theorem RpL.get0 {k : Kx} {F H : Hp} {ds : List D} {vs : List V} {i : Nat} {d : D} (h : RpL k F H ds vs []) (e : ds[i]? = some d) : ∃ v, vs[i]? = some v ∧ Rp k F H d v [] := by
  obtain ⟨v, B, h1, h2, h3⟩ := RpL.get h e
  have : B = [] := List.eq_nil_iff_forall_not_mem.mpr fun a ha => nomatch h3 a ha
  subst this
  exact ⟨v, h1, h2⟩
theorem wk_list {k : Kx} {F H : Hp} {a : Addr} {vs : List V} {ds : List D} (s : SqL k.K F a vs) (p : D.pureL ds = true) (r : RpL k F H ds vs []) : Wk k (Itl k.K a) F ds where
  go := fun i hi F' H' x y => ⟨vs, vs[i]'(by rw [← r.len]; exact hi), ex_l (x.trans y) s, List.getElem?_eq_getElem _⟩
  stop := fun F' H' x y => ⟨vs, ex_l (x.trans y) s, by rw [r.len]; exact Nat.le_refl _⟩
  yld := fun i d e F' H' v H'' x y h => by
    obtain ⟨rfl, h⟩ := h
    obtain ⟨w, e1, r1⟩ := r.get0 e
    have e2 := h vs (ex_l (x.trans y) s)
    rw [e1] at e2
    cases e2
    have pd := pureL_get p e
    exact ⟨pd, F', Tr.refl y, Rp.pure pd x r1⟩
theorem wk_tup {k : Kx} {F H : Hp} {a : Addr} {vs : List V} {ds : List D} (s : SqT k.K F a vs) (p : D.pureL ds = true) (r : RpL k F H ds vs []) : Wk k (Itt k.K a) F ds where
  go := fun i hi F' H' x y => ⟨vs, vs[i]'(by rw [← r.len]; exact hi), ex_t (x.trans y) s, List.getElem?_eq_getElem _⟩
  stop := fun F' H' x y => ⟨vs, ex_t (x.trans y) s, by rw [r.len]; exact Nat.le_refl _⟩
  yld := fun i d e F' H' v H'' x y h => by
    obtain ⟨rfl, h⟩ := h
    obtain ⟨w, e1, r1⟩ := r.get0 e
    have e2 := h vs (ex_t (x.trans y) s)
    rw [e1] at e2
    cases e2
    have pd := pureL_get p e
    exact ⟨pd, F', Tr.refl y, Rp.pure pd x r1⟩
theorem wk_str {k : Kx} {F : Hp} {x : Str} : Wk k (Its x) F (x.cps.toList.map fun c => .str ⟨#[c]⟩) where
  go := fun i hi F' H' _ _ => by
    rw [List.length_map] at hi
    exact hi
  stop := fun F' H' _ _ => by
    rw [List.length_map]
    exact Nat.le_refl _
  yld := fun i d e F' H' v H'' _ y h => by
    obtain ⟨rfl, c, e1, rfl⟩ := h
    rw [List.getElem?_map, Array.getElem?_toList, e1] at e
    cases e
    exact ⟨rfl, F', Tr.refl y, rfl, rfl⟩
/-- a list or a tuple is walked -/
def iSeq (K : PySem.W.Frag) (tl : TE) : TI := fun σ H P => tl σ H fun x H1 => (∃ a xs, x = .ref a ∧ SqL K H1 a xs ∧ P (Itl K a) H1) ∨ ∃ a xs, x = .ref a ∧ SqT K H1 a xs ∧ P (Itt K a) H1
theorem pi_seq {tg l : Expr} {tl : TE} (hl : PE X l tl) : PI X tg l (iSeq X.K tl) := by
  refine ⟨fun pins s σ H P I h => thn (hl.run pins s σ H _ I h) ?_⟩
  rintro v s1 ⟨x, H1, I1, r1, ⟨a, xs, rfl, hq, q⟩ | ⟨a, xs, rfl, hq, q⟩⟩
  · cases r1
    obtain ⟨its, _, pl, _⟩ := I1.list hq
    exact wpAny_pyIter_list pl.isList (pi_one I1 _ (turn_list a _) ⟨_, Heap.get?_push_size _ rfl, rfl, rfl⟩ q)
  · cases r1
    obtain ⟨its, _, pl, _⟩ := I1.tuple hq
    exact wpAny_pyIter_tuple (show s1.heap.IsTuple a its.toArray from pl) (pi_one I1 _ (turn_tuple a _) ⟨_, Heap.get?_push_size _ rfl, rfl, rfl⟩ q)
def walkD : D → Option (List D)
  | .lst false xs => if D.pureL xs = true then some xs else none
  | .tup xs => if D.pureL xs = true then some xs else none
  | .scr xs => if D.pureL xs = true then some xs else none
  | _ => none
@[simp] theorem walkD_lst (xs : List D) : walkD (.lst false xs) = if D.pureL xs = true then some xs else none := rfl
@[simp] theorem walkD_tup (xs : List D) : walkD (.tup xs) = if D.pureL xs = true then some xs else none := rfl
theorem walk_seq {F H F1 H1 : Hp} {d : D} {v : V} {A : List Addr} {ds : List D} {P : It → Hp → Prop} (t1 : Tr F H F1 H1) (r1 : Rp E.k F1 H1 d v A) (e : walkD d = some ds) (p : ∀ F' H' J, Tr F H F' H' → Wk E.k J F' ds → P J H') :
    (∃ a xs, v = .ref a ∧ SqL E.k.K H1 a xs ∧ P (Itl E.k.K a) H1) ∨ ∃ a xs, v = .ref a ∧ SqT E.k.K H1 a xs ∧ P (Itt E.k.K a) H1 := by
  cases d with
  | lst o xs =>
    cases o with
    | false =>
      obtain ⟨z, e⟩ := if_some (show (if D.pureL xs = true then some xs else none) = some ds from e)
      subst e
      obtain ⟨a, vs, B, rfl, r, h1, h2⟩ := r1
      have sF : SqL E.k.K F1 a vs := .inl (.inl (h1 rfl).1)
      exact .inl ⟨a, vs, rfl, ex_l t1.fh sF, p F1 H1 _ t1 (wk_list sF z (RpL.pure (H' := H1) z (.refl _) r))⟩
    | true => cases e
  | tup xs =>
    obtain ⟨z, e⟩ := if_some (show (if D.pureL xs = true then some xs else none) = some ds from e)
    subst e
    obtain ⟨a, vs, rfl, s, r⟩ := r1
    exact .inr ⟨a, vs, rfl, ex_t t1.fh s, p F1 H1 _ t1 (wk_tup s z (RpL.pure (H' := H1) z (.refl _) r))⟩
  | scr xs =>
    obtain ⟨z, e⟩ := if_some (show (if D.pureL xs = true then some xs else none) = some ds from e)
    subst e
    obtain ⟨a, vs, rfl, _, s, r⟩ := r1
    exact .inl ⟨a, vs, rfl, ex_l t1.fh s, p F1 H1 _ t1 (wk_list s z (RpL.pure (H' := H1) z (.refl _) r))⟩
  | _ => cases e
/-- looked at: a frozen list, a tuple -/
def iV (f : Env → R D) : Env → R (List D) := fun ρ => (f ρ).bind fun d => R.opt (walkD d)
/-- an own list: frozen for the walk -/
def iO (f : Env → R D) : Env → R (List D) := fun ρ => (f ρ).bind fun d => if d.cold = true then R.opt (walkD d.frz) else .no
@[simp] theorem iV_eq (f : Env → R D) (ρ : Env) : iV f ρ = (f ρ).bind fun d => R.opt (walkD d) := rfl
@[simp] theorem iO_eq (f : Env → R D) (ρ : Env) : iO f ρ = (f ρ).bind fun d => if d.cold = true then R.opt (walkD d.frz) else .no := rfl
theorem ei_v {tg e : Expr} {f : Env → R D} (hK : E.k.K = X.K) (h : EV X E W e f) : EI X E W tg e (iV f) := by
  refine ⟨pi_mono (pi_seq h.pe) fun σ H P q => ?_⟩
  obtain ⟨F, ρ, s, q⟩ := q
  refine ⟨F, ρ, s, Res.mono q.bind (fun d _ q F1 H1 v A t1 r1 => ?_) fun c _ z F' H' t => z F' H' t⟩
  obtain ⟨ds, e, p⟩ := Res.opt q
  rw [← hK]
  exact walk_seq t1 r1 e p
theorem ei_o {tg e : Expr} {f : Env → R D} (hK : E.k.K = X.K) (h : EO X E W e f) : EI X E W tg e (iO f) := by
  refine ⟨pi_mono (pi_seq h.pe) fun σ H P q => ?_⟩
  obtain ⟨F, ρ, s, q⟩ := q
  refine ⟨F, ρ, s, Res.mono q.bind (fun d _ q F1 H1 v A t1 r1 nd u => ?_) fun c _ z F' H' t => z F' H' t⟩
  by_cases c : d.cold = true
  · rw [if_pos c] at q
    obtain ⟨ds, e, p⟩ := Res.opt q
    rw [← hK]
    have n := fun a ha => (Rp.dom d v A r1 a ha).1
    exact walk_seq (tr_fz t1 n u) (Rp.frz (H' := H1) n d v A c (fun _ z => z) r1) e p
  · rw [if_neg c] at q
    exact q.elim
/-- the signs of a text -/
def strD : D → Option (List D)
  | .str x => some (x.cps.toList.map fun c => .str ⟨#[c]⟩)
  | _ => none
@[simp] theorem strD_str (x : Str) : strD (.str x) = some (x.cps.toList.map fun c => .str ⟨#[c]⟩) := rfl
def iS (f : Env → R D) : Env → R (List D) := fun ρ => (f ρ).bind fun d => R.opt (strD d)
@[simp] theorem iS_eq (f : Env → R D) (ρ : Env) : iS f ρ = (f ρ).bind fun d => R.opt (strD d) := rfl
theorem ei_s {tg e : Expr} {f : Env → R D} (h : EV X E W e f) : EI X E W tg e (iS f) := by
  refine ⟨pi_mono (pi_str h.pe) fun σ H P q => ?_⟩
  obtain ⟨F, ρ, s, q⟩ := q
  refine ⟨F, ρ, s, Res.mono q.bind (fun d _ q F1 H1 v A t1 r1 => ?_) fun c _ z F' H' t => z F' H' t⟩
  obtain ⟨ds, e, p⟩ := Res.opt q
  cases d with
  | str x => cases e; exact ⟨x, r1.1, p F1 H1 _ t1 wk_str⟩
  | _ => cases e
/-! range -/
def rngL (lo : Int) (n : Nat) : List D := (List.range n).map fun i : Nat => .int (lo + (i : Int))
theorem rngL_len (lo : Int) (n : Nat) : (rngL lo n).length = n := by simp [rngL]
theorem wk_rng {k : Kx} {F : Hp} {lo : Int} {n : Nat} : Wk k (Itr lo n) F (rngL lo n) where
  go := fun i hi F' H' _ _ => by
    rw [rngL_len] at hi
    exact hi
  stop := fun F' H' _ _ => by
    rw [rngL_len]
    exact Nat.le_refl _
  yld := fun i d e F' H' v H'' _ y h => by
    obtain ⟨rfl, rfl⟩ := h
    have hi : i < n := by
      have := (List.getElem?_eq_some_iff.mp e).1
      rw [rngL_len] at this
      exact this
    have e' : d = .int (lo + (i : Int)) := by
      unfold rngL at e
      rw [List.getElem?_map, List.getElem?_range hi] at e
      exact (Option.some.inj e).symm
    subst e'
    exact ⟨rfl, F', Tr.refl y, rfl, rfl⟩
noncomputable def rng1 : List D → Option (List D)
  | [.int j] => if W62 j then some (rngL 0 j.toNat) else none
  | _ => none
noncomputable def rng2 : List D → Option (List D)
  | [.int i, .int j] => if W62 i ∧ W62 j then some (rngL i (j - i).toNat) else none
  | _ => none
@[simp] theorem rng1_int (j : Int) : rng1 [.int j] = if W62 j then some (rngL 0 j.toNat) else none := rfl
@[simp] theorem rng2_int (i j : Int) : rng2 [.int i, .int j] = if W62 i ∧ W62 j then some (rngL i (j - i).toNat) else none := rfl
def iA (g : List D → Option (List D)) (fs : Env → R (List D)) : Env → R (List D) := fun ρ => (fs ρ).bind fun ds => R.opt (g ds)
@[simp] theorem iA_eq (g : List D → Option (List D)) (fs : Env → R (List D)) (ρ : Env) : iA g fs ρ = (fs ρ).bind fun ds => R.opt (g ds) := rfl
theorem ei_rng1 {tg a : Expr} {fs : Env → R (List D)} {p pos : Pos} (hg : Gl X "range") (hm : X.mg "range" = none) (ha : EA X E W [a] fs) (hs : starEach [a] X.env = [(false, eval a X.env)] := by rfl) : EI X E W tg (.Call (.Name "range" p) [a] [] pos) (iA rng1 fs) := by
  refine ⟨pi_mono (pi_range1 hg hm ha.pa hs) fun σ H P q => ?_⟩
  obtain ⟨F, ρ, s, q⟩ := q
  refine ⟨F, ρ, s, Res.mono q.bind (fun ds he q F1 H1 vs t1 r1 => ?_) fun c _ z F' H' t => z F' H' t⟩
  obtain ⟨es, e, p⟩ := Res.opt q
  clear he
  unfold rng1 at e
  split at e
  · obtain ⟨z, e⟩ := if_some e
    cases e
    obtain ⟨v, A, rfl, r⟩ := Vw.one r1
    rw [r.1]
    exact ⟨_, rfl, by have := z.1; omega, by have := z.2; omega, p F1 H1 _ t1 wk_rng⟩
  · cases e
theorem ei_rng2 {tg a b : Expr} {fs : Env → R (List D)} {p pos : Pos} (hg : Gl X "range") (hm : X.mg "range" = none) (ha : EA X E W [a, b] fs) (hs : starEach [a, b] X.env = [(false, eval a X.env), (false, eval b X.env)] := by rfl) (hs2 : starEach [b] X.env = [(false, eval b X.env)] := by rfl) : EI X E W tg (.Call (.Name "range" p) [a, b] [] pos) (iA rng2 fs) := by
  refine ⟨pi_mono (pi_range2 hg hm ha.pa hs hs2) fun σ H P q => ?_⟩
  obtain ⟨F, ρ, s, q⟩ := q
  refine ⟨F, ρ, s, Res.mono q.bind (fun ds he q F1 H1 vs t1 r1 => ?_) fun c _ z F' H' t => z F' H' t⟩
  obtain ⟨es, e, p⟩ := Res.opt q
  clear he
  unfold rng2 at e
  split at e
  · obtain ⟨z, e⟩ := if_some e
    cases e
    obtain ⟨v, w, A, B, rfl, r, r2⟩ := Vw.two r1
    rw [r.1, r2.1]
    obtain ⟨⟨z1, z2⟩, z3, z4⟩ := z
    exact ⟨_, _, rfl, ⟨by omega, by omega, by omega, by omega⟩, p F1 H1 _ t1 wk_rng⟩
  · cases e

/-! ### for -/
def forL (g : D → Env → Option Env) (b : Env → SR) : List D → Env → SR
  | [], ρ => .nx ρ
  | d :: ds, ρ => match g d ρ with
    | none => .no
    | some ρ1 => match b ρ1 with
      | .nx ρ2 => forL g b ds ρ2
      | .ct ρ2 => forL g b ds ρ2
      | .bk ρ2 => .nx ρ2
      | r => r
def sFor (it : Env → R (List D)) (g : D → Env → Option Env) (b : Env → SR) : Env → SR := fun ρ => (it ρ).st ρ fun ds => forL g b ds ρ
@[simp] theorem sFor_eq (it : Env → R (List D)) (g : D → Env → Option Env) (b : Env → SR) (ρ : Env) : sFor it g b ρ = (it ρ).st ρ fun ds => forL g b ds ρ := rfl
@[simp] theorem forL_nil (g : D → Env → Option Env) (b : Env → SR) (ρ : Env) : forL g b [] ρ = .nx ρ := rfl
theorem forL_cons (g : D → Env → Option Env) (b : Env → SR) (d : D) (ds : List D) (ρ : Env) : forL g b (d :: ds) ρ = match g d ρ with
    | none => .no
    | some ρ1 => match b ρ1 with
      | .nx ρ2 => forL g b ds ρ2
      | .ct ρ2 => forL g b ds ρ2
      | .bk ρ2 => .nx ρ2
      | r => r := rfl
theorem ss_for {tg iter : Expr} {body : List Stmt} {it : Env → R (List D)} {g : D → Env → Option Env} {b : Env → SR} {pos : Pos} (hp : PassesOwn (model X.prog X.w) X.A X.env X.xe) (hc : X.calm = true) (hi : EI X E W tg iter it) (hg : EG X E tg g) (hb : SB X E W body b)
    (hs : ∀ x, foldedSetIterable iter X.env x = pure x := by intro _; rfl) : SS X E W (.For tg iter body [] pos) (sFor it g b) := by
  refine ⟨ps_mono (ps_for hp hc hi.pi hg.pg hb.ps hs) fun Z σ H h => ?_⟩
  obtain ⟨F, ρ, s, q⟩ := h
  refine ⟨F, ρ, s, Res.mono q.st (fun ds _ q F1 H1 J t1 wk => ?_) fun c _ z => SRes.exc s z⟩
  refine ⟨fun i m σ' H' => ∃ F' ρ', Ex F1 F' ∧ Stt E F' H' σ' ρ' ∧ i ≤ ds.length ∧ m = ds.length - i ∧ SRes E W F' Z (forL g b (ds.drop i) ρ'), ⟨_, F1, ρ, .refl _, s.tr t1, Nat.zero_le _, rfl, SRes.at q t1.ff⟩, ?_⟩
  rintro i m σ' H' ⟨F', ρ', x, s', hi, rfl, q'⟩
  by_cases hlt : i < ds.length
  · have ed : ds.drop i = ds[i] :: ds.drop (i + 1) := List.drop_eq_getElem_cons hlt
    rw [ed, forL_cons] at q'
    refine .inr ⟨wk.go i hlt F' H' x s'.fh, fun σ2 H2 => ∃ F2 ρ2, Ex F1 F2 ∧ Stt E F2 H2 σ2 ρ2 ∧ SRes E W F2 Z (forL g b (ds.drop (i + 1)) ρ2), ?_, fun v H2 y => ?_⟩
    · rintro σ2 H2 ⟨F2, ρ2, x2, s2, q2⟩
      exact ⟨_, by omega, F2, ρ2, x2, s2, hlt, rfl, q2⟩
    · obtain ⟨pd, F2, t2, r2⟩ := wk.yld i ds[i] (List.getElem?_eq_getElem hlt) F' H' v H2 x s'.fh y
      cases eg : g ds[i] ρ' with
      | none => rw [eg] at q'; exact q'.elim
      | some ρ1 =>
        rw [eg] at q'
        refine ⟨F2, ρ', ds[i], s'.tr t2, pd, r2, ρ1, eg, fun σ3 s3 => ⟨F2, ρ1, s3, ?_⟩⟩
        have x12 := x.trans t2.ff
        have q' : SRes E W F' Z (match b ρ1 with
          | .nx ρ2 => forL g b (ds.drop (i + 1)) ρ2
          | .ct ρ2 => forL g b (ds.drop (i + 1)) ρ2
          | .bk ρ2 => .nx ρ2
          | r => r) := q'
        cases eb : b ρ1 with
        | no => rw [eb] at q'; exact q'
        | nx ρ2 => rw [eb] at q'; exact fun F4 H4 σ4 x4 s4 => ⟨F4, ρ2, x12.trans x4, s4, SRes.at q' (t2.ff.trans x4)⟩
        | ct ρ2 => rw [eb] at q'; exact fun F4 H4 σ4 x4 s4 => ⟨F4, ρ2, x12.trans x4, s4, SRes.at q' (t2.ff.trans x4)⟩
        | bk ρ2 => rw [eb] at q'; exact fun F4 H4 σ4 x4 s4 => q' F4 H4 σ4 (t2.ff.trans x4) s4
        | rt d ρ2 => rw [eb] at q'; exact q'
        | ex c ρ2 => rw [eb] at q'; exact fun F4 H4 σ4 x4 s4 => q' F4 H4 σ4 (t2.ff.trans x4) s4
  · have e : i = ds.length := by omega
    subst e
    rw [List.drop_length, forL_nil] at q'
    exact .inl ⟨wk.stop F' H' x s'.fh, q' F' H' σ' (.refl _) s'⟩

/-! ### while -/
def whN (t : Env → R Bool) (b : Env → SR) : Nat → Env → SR
  | 0, _ => .no
  | n + 1, ρ => (t ρ).st ρ fun c => if c = true then (match b ρ with
      | .nx ρ2 => whN t b n ρ2
      | .ct ρ2 => whN t b n ρ2
      | .bk ρ2 => .nx ρ2
      | r => r) else .nx ρ
open Classical in
noncomputable def sWhile (t : Env → R Bool) (b : Env → SR) : Env → SR := fun ρ => if h : ∃ n, whN t b n ρ ≠ .no then whN t b h.choose ρ else .no
theorem whN_succ (t : Env → R Bool) (b : Env → SR) (n : Nat) (ρ : Env) : whN t b (n + 1) ρ = (t ρ).st ρ fun c => if c = true then (match b ρ with
      | .nx ρ2 => whN t b n ρ2
      | .ct ρ2 => whN t b n ρ2
      | .bk ρ2 => .nx ρ2
      | r => r) else .nx ρ := rfl
theorem whN_more (t : Env → R Bool) (b : Env → SR) : ∀ (n : Nat) (ρ : Env), whN t b n ρ ≠ .no → whN t b (n + 1) ρ = whN t b n ρ
  | 0, _, h => absurd rfl h
  | n + 1, ρ, h => by
    rw [whN_succ] at h
    rw [whN_succ t b (n + 1), whN_succ t b n]
    cases et : t ρ with
    | no => rfl
    | ex c => rfl
    | ok c =>
      rw [et] at h
      cases c with
      | false => rfl
      | true =>
        simp only [R.st_ok, if_true] at h ⊢
        cases eb : b ρ with
        | nx ρ2 => rw [eb] at h; exact whN_more t b n ρ2 h
        | ct ρ2 => rw [eb] at h; exact whN_more t b n ρ2 h
        | _ => rfl
theorem whN_le (t : Env → R Bool) (b : Env → SR) {n m : Nat} {ρ : Env} (h : whN t b n ρ ≠ .no) (l : n ≤ m) : whN t b m ρ = whN t b n ρ := by
  induction l with
  | refl => rfl
  | step l ih => rw [whN_more t b _ ρ (by rw [ih]; exact h), ih]
theorem sWhile_of (t : Env → R Bool) (b : Env → SR) {n : Nat} {ρ : Env} (h : whN t b n ρ ≠ .no) : sWhile t b ρ = whN t b n ρ := by
  have ex : ∃ n, whN t b n ρ ≠ .no := ⟨n, h⟩
  unfold sWhile
  rw [dif_pos ex]
  rcases Nat.le_total n ex.choose with l | l
  · exact whN_le t b h l
  · exact (whN_le t b ex.choose_spec l).symm
/-- one turn -/
theorem sWhile_eq (t : Env → R Bool) (b : Env → SR) (ρ : Env) : sWhile t b ρ = (t ρ).st ρ fun c => if c = true then (match b ρ with
      | .nx ρ2 => sWhile t b ρ2
      | .ct ρ2 => sWhile t b ρ2
      | .bk ρ2 => .nx ρ2
      | r => r) else .nx ρ := by
  have go : ∀ ρ2, (∀ n, whN t b n ρ2 = .no) → sWhile t b ρ2 = .no := fun ρ2 h => by
    unfold sWhile
    rw [dif_neg fun ⟨n, z⟩ => z (h n)]
  have key : ∀ (f : Nat → SR) (r : SR), (∀ n, whN t b (n + 1) ρ = f n) → (∀ n, f n ≠ .no → f n = r) → ((∀ n, f n = .no) → r = .no) → sWhile t b ρ = r := fun f r h1 h2 h3 => by
    by_cases hx : ∃ n, f n ≠ .no
    · obtain ⟨n, hn⟩ := hx
      rw [← h2 n hn, ← h1 n]
      exact sWhile_of t b (by rw [h1 n]; exact hn)
    · have all : ∀ n, f n = .no := fun n => Classical.byContradiction fun z => hx ⟨n, z⟩
      rw [h3 all]
      refine go ρ fun n => ?_
      cases n with
      | zero => rfl
      | succ n => rw [h1 n, all n]
  cases et : t ρ with
  | no => exact key (fun _ => .no) _ (fun n => by rw [whN_succ, et]; rfl) (fun n h => absurd rfl h) fun _ => rfl
  | ex c => exact key (fun _ => .ex c ρ) _ (fun n => by rw [whN_succ, et]; rfl) (fun n _ => rfl) fun h => h 0
  | ok c =>
    cases c with
    | false => exact key (fun _ => .nx ρ) _ (fun n => by rw [whN_succ, et]; rfl) (fun n _ => rfl) fun h => h 0
    | true =>
      simp only [R.st_ok, if_true]
      cases eb : b ρ with
      | nx ρ2 => exact key (fun n => whN t b n ρ2) _ (fun n => by rw [whN_succ, et, eb]; rfl) (fun n h => (sWhile_of t b h).symm) fun h => go ρ2 h
      | ct ρ2 => exact key (fun n => whN t b n ρ2) _ (fun n => by rw [whN_succ, et, eb]; rfl) (fun n h => (sWhile_of t b h).symm) fun h => go ρ2 h
      | no => exact key (fun n => .no) _ (fun n => by rw [whN_succ, et, eb]; rfl) (fun n h => absurd rfl h) fun _ => rfl
      | bk ρ2 => exact key (fun n => .nx ρ2) _ (fun n => by rw [whN_succ, et, eb]; rfl) (fun n _ => rfl) fun h => h 0
      | rt d ρ2 => exact key (fun n => .rt d ρ2) _ (fun n => by rw [whN_succ, et, eb]; rfl) (fun n _ => rfl) fun h => h 0
      | ex c ρ2 => exact key (fun n => .ex c ρ2) _ (fun n => by rw [whN_succ, et, eb]; rfl) (fun n _ => rfl) fun h => h 0
theorem ss_while {c : Expr} {body : List Stmt} {t : Env → R Bool} {b : Env → SR} {pos : Pos} (hp : PassesOwn (model X.prog X.w) X.A X.env X.xe) (hc : ET X E W c t) (hb : SB X E W body b) : SS X E W (.While c body [] pos) (sWhile t b) := by
  refine ⟨ps_mono (ps_while hp hc.pt hb.ps) fun Z σ H h => ?_⟩
  obtain ⟨F, ρ, s, q⟩ := h
  have ex : ∃ n, sWhile t b ρ = whN t b n ρ := by
    by_cases h : ∃ n, whN t b n ρ ≠ .no
    · obtain ⟨n, h⟩ := h
      exact ⟨n, sWhile_of t b h⟩
    · refine ⟨0, ?_⟩
      unfold sWhile
      rw [dif_neg h]
      rfl
  obtain ⟨n, en⟩ := ex
  rw [en] at q
  refine ⟨fun m σ' H' => ∃ F' ρ', Stt E F' H' σ' ρ' ∧ SRes E W F' Z (whN t b m ρ'), ⟨n, F, ρ, s, q⟩, ?_⟩
  rintro m σ' H' ⟨F', ρ', s', q'⟩
  cases m with
  | zero => exact q'.elim
  | succ m =>
    rw [whN_succ] at q'
    refine ⟨F', ρ', s', Res.mono q'.st (fun k _ q F1 H1 t1 => ?_) fun c _ z => SRes.exc s' z⟩
    cases k with
    | false => exact q F1 H1 σ' t1.ff (s'.tr t1)
    | true =>
      rw [if_pos rfl]
      refine ⟨fun σ2 H2 => ∃ F2 ρ2, Stt E F2 H2 σ2 ρ2 ∧ SRes E W F2 Z (whN t b m ρ2), fun σ2 H2 h => ⟨m, by omega, h⟩, F1, ρ', s'.tr t1, ?_⟩
      have q : SRes E W F' Z (match b ρ' with
          | .nx ρ2 => whN t b m ρ2
          | .ct ρ2 => whN t b m ρ2
          | .bk ρ2 => .nx ρ2
          | r => r) := q
      cases eb : b ρ' with
      | no => rw [eb] at q; exact q
      | nx ρ2 => rw [eb] at q; exact fun F4 H4 σ4 x4 s4 => ⟨F4, ρ2, s4, SRes.at q (t1.ff.trans x4)⟩
      | ct ρ2 => rw [eb] at q; exact fun F4 H4 σ4 x4 s4 => ⟨F4, ρ2, s4, SRes.at q (t1.ff.trans x4)⟩
      | bk ρ2 => rw [eb] at q; exact fun F4 H4 σ4 x4 s4 => q F4 H4 σ4 (t1.ff.trans x4) s4
      | rt d ρ2 => rw [eb] at q; exact q
      | ex c ρ2 => rw [eb] at q; exact fun F4 H4 σ4 x4 s4 => q F4 H4 σ4 (t1.ff.trans x4) s4
end
end Dv
end
section
set_option maxRecDepth 100000
set_option maxHeartbeats 1000000
namespace Dv
open PySem PySem.Spec PyProof.Rows L2

/-! ### a def -/
def SR.out : SR → R D
  | .rt d _ => .ok d
  | .nx _ => .ok .non
  | .ex c _ => .ex c
  | _ => .no
@[simp] theorem SR.out_rt (d : D) (ρ : Env) : (SR.rt d ρ).out = .ok d := rfl
@[simp] theorem SR.out_nx (ρ : Env) : (SR.nx ρ).out = .ok .non := rfl
@[simp] theorem SR.out_ex (c : Nat) (ρ : Env) : (SR.ex c ρ).out = .ex c := rfl
@[simp] theorem SR.out_no : SR.no.out = .no := rfl
/-- the meaning of a def: n parameters, m slots -/
def fnD (n m : Nat) (b : Env → SR) : List D → R D := fun ds => if ds.length = n then (b (ds.map some ++ List.replicate (m - n) none)).out else .no
theorem rp_start {k : Kx} {F H : Hp} {ds : List D} {vs : List V} (r : RpL k F H ds vs []) (m : Nat) (i : Nat) (d : D) (e : (ds.map some ++ List.replicate m none)[i]? = some (some d)) : ∃ v, (vs.map some ++ List.replicate m (none : Option V))[i]? = some (some v) ∧ Rp k F H d v [] := by
  have hl := r.len
  by_cases hi : i < ds.length
  · rw [List.getElem?_append_left (by rw [List.length_map]; exact hi), List.getElem?_map] at e
    cases q : ds[i]? with
    | none => rw [q] at e; cases e
    | some d' =>
      rw [q] at e
      cases e
      obtain ⟨v, h1, h2⟩ := r.get0 q
      exact ⟨v, by rw [List.getElem?_append_left (by rw [List.length_map, ← hl]; exact hi), List.getElem?_map, h1]; rfl, h2⟩
  · rw [List.getElem?_append_right (by rw [List.length_map]; omega)] at e
    have := List.mem_of_getElem? e
    rw [List.mem_replicate] at this
    cases this.2
section
variable {P : Program} {w : World} {K : PySem.W.Frag} {mg : Str → Option Value} {base : Heap}
theorem Stt.toTr {E : En} {F H : Hp} {σ : L2.St} {ρ : Env} (hB : E.B = []) (s : Stt E F H σ ρ) : Tr E.F0 E.He F H :=
  ⟨s.e0, fun a o e => s.st a o e (by rw [hB]; exact fun z => nomatch z), s.fh, s.fr⟩
theorem Fin.toTr {E : En} {F H : Hp} {d : D} {v : V} (hB : E.B = []) (s : Fin E F H d v) : Tr E.F0 E.He F H :=
  ⟨s.e0, fun a o e => s.st a o e (by rw [hB]; exact fun z => nomatch z), s.fh, s.fr⟩
/-- a def without borrowed arguments, at its entry -/
abbrev En0 (kx : Kx) (ec : Nat → Value) (He F0 : Hp) (v0 : L2.St) : En := ⟨kx, ec, He, F0, [], [], v0⟩
theorem fn_ok {x qual : Str} {st : Stmt} {f : Addr} {fd : FuncData} {N ps : List Str} (k n m : Nat) (kx : Kx) (ec : Nat → Value) {b : Env → SR} (hn : ps.length = n) (hm : N.length = m) (G : Fun K x qual st f fd) (S : FnScope N ps (defScope st))
    (hbody : ∀ (cdv : Value) (A : Around) (outer : List PySem.Env) (s : Shared) (H : Hp) (Ew : XK) (He F0 : Hp) (v0 : L2.St) (W : WX), Room k (A.deeper (envOfC qual (defScope st) s.heap.objs.size f cdv)) →
      Takes (cxOf (L2.CX P w) P w K mg base N qual (defScope st) f cdv A outer s H Ew) W → PassesOwn (model P w) (cxOf (L2.CX P w) P w K mg base N qual (defScope st) f cdv A outer s H Ew).A (cxOf (L2.CX P w) P w K mg base N qual (defScope st) f cdv A outer s H Ew).env (cxOf (L2.CX P w) P w K mg base N qual (defScope st) f cdv A outer s H Ew).xe →
      SB (cxOf (L2.CX P w) P w K mg base N qual (defScope st) f cdv A outer s H Ew) (En0 kx ec He F0 v0) W (defBody st) b) :
    FnOk P w K mg base (L2.CX P w) (k + 1) f fd ps (spD kx ec n (fnD n m b)) := by
  subst hn hm
  refine G.okX S (fun vs H Q E h => spD_len h) fun cdv A outer s H vs Q Ew hr h => ?_
  obtain ⟨F, ds, x, r, p, l, h⟩ := h
  have sb := hbody cdv A outer s H Ew H F (L2.start N vs) (fun cls d _ H => Ew cls d H) hr (takes_of rfl rfl rfl rfl) (passes_of rfl)
  refine ⟨_, sb.ps, F, ds.map some ++ List.replicate (N.length - ps.length) none, ?_, ?_⟩
  · have hl := r.len
    refine ⟨.refl _, x, fun a e _ => e, fun a o e _ => e, (fun a z => nomatch z), ?_, (fun i z => nomatch z), fun _ => [], fun i d e => ?_, fun _ _ => rfl, fun _ => .nil, (fun _ _ _ z => nomatch z), (fun _ _ z => nomatch z)⟩
    · unfold L2.start
      rw [List.length_append, List.length_append, List.length_map, List.length_map, List.length_replicate, List.length_replicate, ← hl, l]
    · unfold L2.start
      rw [← hl, l]
      exact rp_start r _ i d e
  · unfold fnD at h
    rw [if_pos l] at h
    cases eb : b (ds.map some ++ List.replicate (N.length - ps.length) none) with
    | no => rw [eb] at h; exact h.elim
    | bk ρ => rw [eb] at h; exact h.elim
    | ct ρ => rw [eb] at h; exact h.elim
    | nx ρ => rw [eb] at h; exact fun F' H' σ _ s' => h F' H' .non [] (s'.toTr rfl) ⟨rfl, rfl⟩ .nil fun _ z => nomatch z
    | rt d ρ =>
      rw [eb] at h
      intro F' H' σ v s' fn
      obtain ⟨A', r', nd, u⟩ := fn.rp
      exact h F' H' v A' (fn.toTr rfl) r' nd u
    | ex c ρ => rw [eb] at h; exact fun F' H' σ _ s' => h F' H' (s'.toTr rfl)
/-- a module's constant as data -/
def Glob (kx : Kx) (mg : Str → Option Value) (x : Str) (d : D) : Prop := ∃ u v, mg x = some u ∧ RelV v u ∧ ∀ F H, Rp kx F H d v []
theorem glob_int {kx : Kx} {mg : Str → Option Value} {x : Str} {i : Int} {t : Tok} (h : mg x = some (.int i t)) : Glob kx mg x (.int i) := ⟨_, .int i, h, ⟨_, rfl⟩, fun _ _ => ⟨rfl, rfl⟩⟩
theorem glob_str {kx : Kx} {mg : Str → Option Value} {x : Str} {i : Str} {t : Tok} (h : mg x = some (.str i t)) : Glob kx mg x (.str i) := ⟨_, .str i, h, ⟨_, rfl⟩, fun _ _ => ⟨rfl, rfl⟩⟩
theorem eo_g {X : Cx} {E : En} {W : WX} {x : Str} {d : D} {pos : Pos} (hg : Gl X x) (h : Glob E.k X.mg x d) (hd : (x == ("__debug__" : Str)) = false := by decide) : EO X E W (.Name x pos) (eC d) :=
  let ⟨_, _, hm, r, rp⟩ := h
  eo_glob hg hm r rp hd
/-- a weaker meaning -/
theorem FnOk.den {kx : Kx} {ec : Nat → Value} {n k : Nat} {f : Addr} {fd : FuncData} {ps : List Str} {g g' : List D → R D} (G : FnOk P w K mg base (L2.CX P w) k f fd ps (spD kx ec n g)) (h : ∀ ds, g' ds ≠ .no → g ds = g' ds) : FnOk P w K mg base (L2.CX P w) k f fd ps (spD kx ec n g') :=
  G.imp fun vs H Q E ⟨F, ds, x, r, p, l, q⟩ => ⟨F, ds, x, r, p, l, by
    have : g' ds ≠ .no := fun z => by rw [z] at q; exact q.elim
    rw [h ds this]; exact q⟩
end

section
variable {X : Cx} {E : En} {W : WX}
/-! ### raise -/
/-- an own exception class without an __init__ -/
structure ExF (K : PySem.W.Frag) (mg : Str → Option Value) (x : Str) (C : Addr) : Prop where
  g : mg x = some (.ref C)
  k : PySem.W.keepIn K (.ref C) = true
  x : PySem.W.excIn K C [.type "ValueError", .type "Exception", .type "BaseException", .type "object"] "ValueError.__new__" = true
  b : PySem.W.subIn K (.ref C) (.type "BaseException") = some true
  t : PySem.W.typeIn K (.ref C) = some (.type "type")
def sRaise (c : Nat) : Env → SR := fun ρ => .ex c ρ
@[simp] theorem sRaise_eq (c : Nat) (ρ : Env) : sRaise c ρ = .ex c ρ := rfl
theorem ss_raise {c : Nat} {C : Addr} {x m : Str} {j : Nat} {p p2 pos pos2 : Pos} (T : ExF X.K X.mg x C) (hE : E.ec c = .ref C) (hc : X.calm = true) (tk : Takes X W) (hg : Gl X x) (hdb : (x == ("__debug__" : Str)) = false := by decide) :
    SS X E W (.Raise (some (.Call (.Name x p) [.Constant (.str m) j p2] [] pos)) none pos2) (sRaise c) := by
  refine ⟨ps_mono (ps_raise hc tk (pmk_own PySem.F.excBase_ValueError T.x T.g T.k (raises_own T.b T.t) hg hdb)) fun Z σ H h => ?_⟩
  obtain ⟨F, ρ, s, q⟩ := h
  show W (.ref C) none σ H
  rw [← hE]
  exact q F H σ (.refl _) s

/-! ### lists that change -/
theorem lstO {F H : Hp} {xs : List D} {v : V} {A : List Addr} (h : Rp E.k F H (.lst true xs) v A) : ∃ l vs B, v = .ref l ∧ A = l :: B ∧ F l = none ∧ H l = some (.lst vs) ∧ RpL E.k F H xs vs B := by
  obtain ⟨a, vs, B, e, r, _, h2⟩ := h
  exact ⟨a, vs, B, e, (h2 rfl).1, (h2 rfl).2.1, (h2 rfl).2.2, r⟩
theorem RpL.upd {k : Kx} {F H : Hp} {ds : List D} {vs : List V} {A : List Addr} {l : Addr} {o : HO} (r : RpL k F H ds vs A) (n : l ∉ A) : RpL k F (upd H l o) ds vs A :=
  RpL.mono (.refl _) ds vs A (fun a ha o2 e2 m => ⟨by rw [upd_ne fun z => n (by rw [← z]; exact ha)]; exact e2, m⟩) r
theorem Rp.upd {k : Kx} {F H : Hp} {d : D} {v : V} {A : List Addr} {l : Addr} {o : HO} (r : Rp k F H d v A) (n : l ∉ A) : Rp k F (upd H l o) d v A :=
  Rp.mono (.refl _) d v A (fun a ha o2 e2 m => ⟨by rw [upd_ne fun z => n (by rw [← z]; exact ha)]; exact e2, m⟩) r
/-- the list in slot i becomes another one -/
def onL (i : Nat) (ρ : Env) (k : List D → SR) : SR := match ρ[i]?.getD none with
  | some (.lst true xs) => k xs
  | _ => .no
theorem onL_eq (i : Nat) (ρ : Env) (k : List D → SR) : onL i ρ k = match ρ[i]?.getD none with
  | some (.lst true xs) => k xs
  | _ => .no := rfl
theorem onL_of {F : Hp} {Z : Ends} {i : Nat} {ρ : Env} {k : List D → SR} (h : SRes E W F Z (onL i ρ k)) : ∃ xs, ρ[i]? = some (some (.lst true xs)) ∧ SRes E W F Z (k xs) := by
  unfold onL at h
  split at h
  · rename_i xs e
    exact ⟨xs, some_some e, h⟩
  · exact h.elim
theorem SRes.onL {F H : Hp} {Z : Ends} {i : Nat} {ρ : Env} {k : List D → SR} (h : SRes E W F Z (onL i ρ k)) : ∃ xs, ρ[i]? = some (some (.lst true xs)) ∧ SRes E W F Z (k xs) := onL_of h
/-- name.append(e) -/
def sApp (i : Nat) (f : Env → R D) : Env → SR := fun ρ => onL i ρ fun xs => (f ρ).st ρ fun d => if xs.length < 16777216 then .nx (ρ.set i (some (.lst true (xs ++ [d])))) else .no
@[simp] theorem sApp_eq (i : Nat) (f : Env → R D) (ρ : Env) : sApp i f ρ = onL i ρ fun xs => (f ρ).st ρ fun d => if xs.length < 16777216 then .nx (ρ.set i (some (.lst true (xs ++ [d])))) else .no := rfl
theorem res_ok {α : Type} {r : R α} {P : α → Prop} {Ew : Nat → Prop} (h : Res r P Ew) : (∃ a, r = .ok a ∧ P a) ∨ ∃ c, r = .ex c ∧ Ew c := by
  cases r with
  | no => exact h.elim
  | ok a => exact .inl ⟨a, rfl, h⟩
  | ex c => exact .inr ⟨c, rfl, h⟩
theorem ty_lst {k : Kx} {K : PySem.W.Frag} {F H : Hp} {o : Bool} {xs : List D} {v : V} {A : List Addr} (fh : Ex F H) (r : Rp k F H (.lst o xs) v A) : tyV K "list" v H := by
  obtain ⟨a, vs, B, rfl, e, _⟩ := Rp.lstW fh r
  exact .inl ⟨rfl, vs, .inl (.inl e)⟩
theorem ss_app {i : Nat} {o e : Expr} {f : Env → R D} {apos cpos pos : Pos} (ho : PE X o (tVar i)) (h : EO X E W e f) (hs : swapsWith (.Call (.Attribute o "append" apos) [e] [] cpos) none pos.line X.env = pure false := by rfl)
    (hbase : attributeBase o "append" X.env (eval o X.env) = eval o X.env := by rfl)
    (hfew : ((backTo cpos (starEach [e] X.env)).all (fun x => !x.1) && (backToKw cpos (keywordEach [] X.env)).all (fun x => x.1.isSome)
      && decide ([e].length + ([] : List Keyword).length + (if ([] : List Keyword).isEmpty then 0 else 1) < 30)) = true := by rfl)
    (hline : (apos.endLine == cpos.line) = true := by rfl) (hst : starEach [e] X.env = (false, eval e X.env) :: starEach [] X.env := by rfl) (hplain : (backTo cpos (starEach [] X.env)).any (·.1) = false := by rfl) :
    SS X E W (.Expr (.Call (.Attribute o "append" apos) [e] [] cpos) pos) (sApp i f) := by
  refine ⟨ps_mono (ps_expr (pe_bm PySem.F.plainAttrs_list PySem.F.slot_list_append PySem.F.type_list_append mt_append ho (pa_cons h.pe pa_nil hst) hbase hfew hline hst hplain) hs) fun Z σ H h => ?_⟩
  obtain ⟨F, ρ, s, q⟩ := h
  obtain ⟨xs, e, q⟩ := onL_of q
  obtain ⟨fp, sl⟩ := s.sl
  obtain ⟨v, ev, r⟩ := sl.rp i _ e
  refine ⟨v, ev, ty_lst s.fh r, F, ρ, s, Res.mono q.st (fun d _ q F1 H1 w A t1 r1 nd u => ?_) fun c _ z => SRes.exc s z⟩
  by_cases hz : xs.length < 16777216
  · rw [if_pos hz] at q
    have s1 := s.tr t1
    have sl1 : Sl E F1 H1 σ ρ fp := ⟨fun j d e => let ⟨v, ev, r⟩ := sl.rp j d e; ⟨v, ev, r.tr t1⟩, sl.em, sl.nd, sl.dj, sl.nw⟩
    obtain ⟨l, vs, B, rfl, eA, fl, hl, rl⟩ := lstO (r.tr t1)
    have lfp : l ∈ fp i := by rw [eA]; exact List.mem_cons_self
    have new : ∀ a ∈ A, E.He a = none ∧ ∀ j, a ∉ fp j := fun a ha => ⟨s.new (u a ha), fun j hj => (sl.there hj).2 (u a ha)⟩
    have lA : l ∉ A := fun z => (new l z).2 i lfp
    have ndi := sl.nd i
    rw [eA] at ndi
    have lB : l ∉ B := (List.nodup_cons.mp ndi).1
    refine ⟨l, vs, w, rfl, rfl, hl, Nat.lt_of_lt_of_eq (by rw [← rl.len]; exact hz) sizeLine_eq.symm, q F1 _ σ t1.ff ?_⟩
    refine s1.write sl1 (v := .ref l) (A' := l :: (B ++ A)) lfp ev ⟨l, vs ++ [w], B ++ A, rfl, (rl.upd lB).append (RpL.one (r1.upd lA)), (fun z => nomatch z), fun _ => ⟨rfl, fl, upd_same⟩⟩ ?_ fun a ha => ?_
    · refine List.nodup_cons.mpr ⟨fun z => (List.mem_append.mp z).elim lB lA, List.nodup_append.mpr ⟨(List.nodup_cons.mp ndi).2, nd, fun a ha b hb z => ?_⟩⟩
      subst z
      exact (new a hb).2 i (by rw [eA]; exact List.mem_cons_of_mem _ ha)
    · rcases List.mem_cons.mp ha with rfl | ha
      · exact .inl lfp
      · rcases List.mem_append.mp ha with ha | ha
        · exact .inl (by rw [eA]; exact List.mem_cons_of_mem _ ha)
        · exact .inr (new a ha)
  · rw [if_neg hz] at q
    exact q.elim
end
end Dv
end
section
set_option maxRecDepth 100000
set_option maxHeartbeats 1000000
namespace Dv
open PySem PySem.Spec PyProof.Rows L2
/-! ### facts for simp -/
@[simp] theorem isi_int_non  : isiD "int" .non = .ok (.bl false) := isiD_of (fun _ _ _ z => nomatch z) (by show kitB "NoneType" "int" = some false; decide +kernel)
@[simp] theorem isi_int_bl (b : Bool) : isiD "int" (.bl b) = .ok (.bl true) := isiD_of (fun _ _ _ z => nomatch z) (by show kitB "bool" "int" = some true; decide +kernel)
@[simp] theorem isi_int_int (i : Int) : isiD "int" (.int i) = .ok (.bl true) := isiD_of (fun _ _ _ z => nomatch z) (by show kitB "int" "int" = some true; decide +kernel)
@[simp] theorem isi_int_str (x : Str) : isiD "int" (.str x) = .ok (.bl false) := isiD_of (fun _ _ _ z => nomatch z) (by show kitB "str" "int" = some false; decide +kernel)
@[simp] theorem isi_int_tup (xs : List D) : isiD "int" (.tup xs) = .ok (.bl false) := isiD_of (fun _ _ _ z => nomatch z) (by show kitB "tuple" "int" = some false; decide +kernel)
@[simp] theorem isi_int_lst (o : Bool) (xs : List D) : isiD "int" (.lst o xs) = .ok (.bl false) := isiD_of (fun _ _ _ z => nomatch z) (by show kitB "list" "int" = some false; decide +kernel)
@[simp] theorem isi_bool_non  : isiD "bool" .non = .ok (.bl false) := isiD_of (fun _ _ _ z => nomatch z) (by show kitB "NoneType" "bool" = some false; decide +kernel)
@[simp] theorem isi_bool_bl (b : Bool) : isiD "bool" (.bl b) = .ok (.bl true) := isiD_of (fun _ _ _ z => nomatch z) (by show kitB "bool" "bool" = some true; decide +kernel)
@[simp] theorem isi_bool_int (i : Int) : isiD "bool" (.int i) = .ok (.bl false) := isiD_of (fun _ _ _ z => nomatch z) (by show kitB "int" "bool" = some false; decide +kernel)
@[simp] theorem isi_bool_str (x : Str) : isiD "bool" (.str x) = .ok (.bl false) := isiD_of (fun _ _ _ z => nomatch z) (by show kitB "str" "bool" = some false; decide +kernel)
@[simp] theorem isi_bool_tup (xs : List D) : isiD "bool" (.tup xs) = .ok (.bl false) := isiD_of (fun _ _ _ z => nomatch z) (by show kitB "tuple" "bool" = some false; decide +kernel)
@[simp] theorem isi_bool_lst (o : Bool) (xs : List D) : isiD "bool" (.lst o xs) = .ok (.bl false) := isiD_of (fun _ _ _ z => nomatch z) (by show kitB "list" "bool" = some false; decide +kernel)
@[simp] theorem isi_str_non  : isiD "str" .non = .ok (.bl false) := isiD_of (fun _ _ _ z => nomatch z) (by show kitB "NoneType" "str" = some false; decide +kernel)
@[simp] theorem isi_str_bl (b : Bool) : isiD "str" (.bl b) = .ok (.bl false) := isiD_of (fun _ _ _ z => nomatch z) (by show kitB "bool" "str" = some false; decide +kernel)
@[simp] theorem isi_str_int (i : Int) : isiD "str" (.int i) = .ok (.bl false) := isiD_of (fun _ _ _ z => nomatch z) (by show kitB "int" "str" = some false; decide +kernel)
@[simp] theorem isi_str_str (x : Str) : isiD "str" (.str x) = .ok (.bl true) := isiD_of (fun _ _ _ z => nomatch z) (by show kitB "str" "str" = some true; decide +kernel)
@[simp] theorem isi_str_tup (xs : List D) : isiD "str" (.tup xs) = .ok (.bl false) := isiD_of (fun _ _ _ z => nomatch z) (by show kitB "tuple" "str" = some false; decide +kernel)
@[simp] theorem isi_str_lst (o : Bool) (xs : List D) : isiD "str" (.lst o xs) = .ok (.bl false) := isiD_of (fun _ _ _ z => nomatch z) (by show kitB "list" "str" = some false; decide +kernel)
@[simp] theorem isi_tuple_non  : isiD "tuple" .non = .ok (.bl false) := isiD_of (fun _ _ _ z => nomatch z) (by show kitB "NoneType" "tuple" = some false; decide +kernel)
@[simp] theorem isi_tuple_bl (b : Bool) : isiD "tuple" (.bl b) = .ok (.bl false) := isiD_of (fun _ _ _ z => nomatch z) (by show kitB "bool" "tuple" = some false; decide +kernel)
@[simp] theorem isi_tuple_int (i : Int) : isiD "tuple" (.int i) = .ok (.bl false) := isiD_of (fun _ _ _ z => nomatch z) (by show kitB "int" "tuple" = some false; decide +kernel)
@[simp] theorem isi_tuple_str (x : Str) : isiD "tuple" (.str x) = .ok (.bl false) := isiD_of (fun _ _ _ z => nomatch z) (by show kitB "str" "tuple" = some false; decide +kernel)
@[simp] theorem isi_tuple_tup (xs : List D) : isiD "tuple" (.tup xs) = .ok (.bl true) := isiD_of (fun _ _ _ z => nomatch z) (by show kitB "tuple" "tuple" = some true; decide +kernel)
@[simp] theorem isi_tuple_lst (o : Bool) (xs : List D) : isiD "tuple" (.lst o xs) = .ok (.bl false) := isiD_of (fun _ _ _ z => nomatch z) (by show kitB "list" "tuple" = some false; decide +kernel)
@[simp] theorem isi_list_non  : isiD "list" .non = .ok (.bl false) := isiD_of (fun _ _ _ z => nomatch z) (by show kitB "NoneType" "list" = some false; decide +kernel)
@[simp] theorem isi_list_bl (b : Bool) : isiD "list" (.bl b) = .ok (.bl false) := isiD_of (fun _ _ _ z => nomatch z) (by show kitB "bool" "list" = some false; decide +kernel)
@[simp] theorem isi_list_int (i : Int) : isiD "list" (.int i) = .ok (.bl false) := isiD_of (fun _ _ _ z => nomatch z) (by show kitB "int" "list" = some false; decide +kernel)
@[simp] theorem isi_list_str (x : Str) : isiD "list" (.str x) = .ok (.bl false) := isiD_of (fun _ _ _ z => nomatch z) (by show kitB "str" "list" = some false; decide +kernel)
@[simp] theorem isi_list_tup (xs : List D) : isiD "list" (.tup xs) = .ok (.bl false) := isiD_of (fun _ _ _ z => nomatch z) (by show kitB "tuple" "list" = some false; decide +kernel)
@[simp] theorem isi_list_lst (o : Bool) (xs : List D) : isiD "list" (.lst o xs) = .ok (.bl true) := isiD_of (fun _ _ _ z => nomatch z) (by show kitB "list" "list" = some true; decide +kernel)
@[simp] theorem pure_non  : D.pure .non = true := rfl
@[simp] theorem cold_non  : D.cold .non = true := rfl
@[simp] theorem noFz_non  : D.noFz .non = true := rfl
@[simp] theorem frz_non  : D.frz .non = .non := rfl
@[simp] theorem lay_non (n : Nat)  : D.lay n .non = true := by cases n <;> rfl
@[simp] theorem pure_bl (b : Bool) : D.pure (.bl b) = true := rfl
@[simp] theorem cold_bl (b : Bool) : D.cold (.bl b) = true := rfl
@[simp] theorem noFz_bl (b : Bool) : D.noFz (.bl b) = true := rfl
@[simp] theorem frz_bl (b : Bool) : D.frz (.bl b) = (.bl b) := rfl
@[simp] theorem lay_bl (n : Nat) (b : Bool) : D.lay n (.bl b) = true := by cases n <;> rfl
@[simp] theorem pure_int (i : Int) : D.pure (.int i) = true := rfl
@[simp] theorem cold_int (i : Int) : D.cold (.int i) = true := rfl
@[simp] theorem noFz_int (i : Int) : D.noFz (.int i) = true := rfl
@[simp] theorem frz_int (i : Int) : D.frz (.int i) = (.int i) := rfl
@[simp] theorem lay_int (n : Nat) (i : Int) : D.lay n (.int i) = true := by cases n <;> rfl
@[simp] theorem pure_str (x : Str) : D.pure (.str x) = true := rfl
@[simp] theorem cold_str (x : Str) : D.cold (.str x) = true := rfl
@[simp] theorem noFz_str (x : Str) : D.noFz (.str x) = true := rfl
@[simp] theorem frz_str (x : Str) : D.frz (.str x) = (.str x) := rfl
@[simp] theorem lay_str (n : Nat) (x : Str) : D.lay n (.str x) = PyData.strOk x := by cases n <;> rfl
@[simp] theorem pure_tup (xs : List D) : D.pure (.tup xs) = D.pureL xs := rfl
@[simp] theorem pure_lst (o : Bool) (xs : List D) : D.pure (.lst o xs) = (!o && D.pureL xs) := rfl
@[simp] theorem pure_scr (xs : List D) : D.pure (.scr xs) = D.pureL xs := rfl
@[simp] theorem cold_tup (xs : List D) : D.cold (.tup xs) = D.coldL xs := rfl
@[simp] theorem cold_lst (o : Bool) (xs : List D) : D.cold (.lst o xs) = D.coldL xs := rfl
@[simp] theorem cold_scr (xs : List D) : D.cold (.scr xs) = D.coldL xs := rfl
@[simp] theorem frz_tup (xs : List D) : D.frz (.tup xs) = .tup (D.frzL xs) := rfl
@[simp] theorem frz_lst (o : Bool) (xs : List D) : D.frz (.lst o xs) = .lst false (D.frzL xs) := rfl
@[simp] theorem frz_scr (xs : List D) : D.frz (.scr xs) = .scr (D.frzL xs) := rfl
@[simp] theorem noFz_tup (xs : List D) : D.noFz (.tup xs) = D.noFzL xs := rfl
@[simp] theorem noFz_lst (o : Bool) (xs : List D) : D.noFz (.lst o xs) = (o && D.noFzL xs) := rfl
@[simp] theorem lay_tup (n : Nat) (xs : List D) : D.lay (n + 1) (.tup xs) = D.layL n xs := rfl
@[simp] theorem lay_lst (n : Nat) (o : Bool) (xs : List D) : D.lay (n + 1) (.lst o xs) = D.layL n xs := rfl
@[simp] theorem pureL_nil : D.pureL [] = true := rfl
@[simp] theorem pureL_cons (x : D) (xs : List D) : D.pureL (x :: xs) = (x.pure && D.pureL xs) := rfl
@[simp] theorem coldL_nil : D.coldL [] = true := rfl
@[simp] theorem coldL_cons (x : D) (xs : List D) : D.coldL (x :: xs) = (x.cold && D.coldL xs) := rfl
@[simp] theorem frzL_nil : D.frzL [] = [] := rfl
@[simp] theorem frzL_cons (x : D) (xs : List D) : D.frzL (x :: xs) = x.frz :: D.frzL xs := rfl
@[simp] theorem noFzL_nil : D.noFzL [] = true := rfl
@[simp] theorem noFzL_cons (x : D) (xs : List D) : D.noFzL (x :: xs) = (x.noFz && D.noFzL xs) := rfl
@[simp] theorem layL_nil (n : Nat) : D.layL n [] = true := rfl
@[simp] theorem layL_cons (n : Nat) (x : D) (xs : List D) : D.layL n (x :: xs) = (x.lay n && D.layL n xs) := rfl
@[simp] theorem asOwn_eq (f : Env → R D) (ρ : Env) : asOwn f ρ = (f ρ).bind fun d => if d.pure then .ok d else .no := rfl
/-! ints in a list -/
def dInts (ns : List Int) : List D := ns.map D.int
@[simp] theorem dInts_nil : dInts [] = [] := rfl
@[simp] theorem dInts_cons (n : Int) (ns : List Int) : dInts (n :: ns) = .int n :: dInts ns := rfl
@[simp] theorem dInts_len (ns : List Int) : (dInts ns).length = ns.length := List.length_map _
@[simp] theorem dInts_app (ns ms : List Int) : dInts ns ++ dInts ms = dInts (ns ++ ms) := (List.map_append ..).symm
@[simp] theorem dInts_app1 (ns : List Int) (m : Int) : dInts ns ++ [.int m] = dInts (ns ++ [m]) := dInts_app ns [m]
@[simp] theorem dInts_pure : ∀ ns : List Int, D.pureL (dInts ns) = true
  | [] => rfl
  | n :: ns => by rw [dInts_cons, pureL_cons, dInts_pure ns]; rfl
@[simp] theorem dInts_cold (ns : List Int) : D.coldL (dInts ns) = true := D.pureL_cold _ (dInts_pure ns)
@[simp] theorem dInts_frz (ns : List Int) : D.frzL (dInts ns) = dInts ns := D.pureL_frzL _ (dInts_pure ns)
@[simp] theorem dInts_noFz : ∀ ns : List Int, D.noFzL (dInts ns) = true
  | [] => rfl
  | n :: ns => by rw [dInts_cons, noFzL_cons, dInts_noFz ns]; rfl
@[simp] theorem dInts_lay (k : Nat) : ∀ ns : List Int, D.layL k (dInts ns) = true
  | [] => rfl
  | n :: ns => by rw [dInts_cons, layL_cons, dInts_lay k ns, lay_int]; rfl
@[simp] theorem dInts_get (ns : List Int) (i : Nat) : (dInts ns)[i]? = (ns[i]?).map D.int := List.getElem?_map ..
@[simp] theorem dInts_at (ns : List Int) (i : Nat) (h : i < (dInts ns).length) : (dInts ns)[i] = .int (ns[i]'(by rw [dInts_len] at h; exact h)) := List.getElem_map ..
theorem dInts_drop (ns : List Int) (i : Nat) : (dInts ns).drop i = dInts (ns.drop i) := (List.map_drop ..).symm
theorem dInts_take (ns : List Int) (i : Nat) : (dInts ns).take i = dInts (ns.take i) := (List.map_take ..).symm
@[simp] theorem dInts_cut (ns : List Int) (lo hi : Option Int) : cutD (dInts ns) lo hi = dInts (cutD ns lo hi) := by
  unfold cutD
  rw [dInts_len, dInts_drop, dInts_take]
@[simp] theorem dInts_isEmpty (ns : List Int) : (dInts ns).isEmpty = ns.isEmpty := by cases ns <;> rfl
theorem dInts_eqvAll : ∀ ns ms : List Int, PyData.eqvAll (D.toPL (dInts ns)) (D.toPL (dInts ms)) = (ns == ms)
  | [], [] => rfl
  | [], m :: ms => rfl
  | n :: ns, [] => rfl
  | n :: ns, m :: ms => by
    show (PyData.eqv (.int n) (.int m) && PyData.eqvAll (D.toPL (dInts ns)) (D.toPL (dInts ms))) = _
    rw [dInts_eqvAll ns ms]
    rfl
@[simp] theorem gEq_ints (o p : Bool) (ns ms : List Int) : gEq (.lst o (dInts ns)) (.lst p (dInts ms)) = some (.bl (ns == ms)) := by
  have h : ∀ (o : Bool) (ns : List Int), D.lay 60 (.lst o (dInts ns)) = true := fun o ns => dInts_lay 59 ns
  simp only [gEq, h, and_self, if_true]
  show some (D.bl (PyData.eqvAll (D.toPL (dInts ns)) (D.toPL (dInts ms)))) = _
  rw [dInts_eqvAll]
@[simp] theorem gNe_ints (o p : Bool) (ns ms : List Int) : gNe (.lst o (dInts ns)) (.lst p (dInts ms)) = some (.bl (!(ns == ms))) := by
  have h : ∀ (o : Bool) (ns : List Int), D.lay 60 (.lst o (dInts ns)) = true := fun o ns => dInts_lay 59 ns
  simp only [gNe, h, and_self, if_true]
  show some (D.bl (!(PyData.eqvAll (D.toPL (dInts ns)) (D.toPL (dInts ms))))) = _
  rw [dInts_eqvAll]
@[simp] theorem gEq_tints (ns ms : List Int) : gEq (.tup (dInts ns)) (.tup (dInts ms)) = some (.bl (ns == ms)) := by
  have h : ∀ (ns : List Int), D.lay 60 (.tup (dInts ns)) = true := fun ns => dInts_lay 59 ns
  simp only [gEq, h, and_self, if_true]
  show some (D.bl (PyData.eqvAll (D.toPL (dInts ns)) (D.toPL (dInts ms)))) = _
  rw [dInts_eqvAll]
/-- a loop by an invariant -/
theorem forL_inv {g : D → Env → Option Env} {b : Env → SR} (I : Nat → Env → Prop) : ∀ (ds : List D) (i : Nat) (ρ : Env),
    (∀ j d ρ, ds[j]? = some d → I (i + j) ρ → ∃ ρ1 ρ2, g d ρ = some ρ1 ∧ (b ρ1 = .nx ρ2 ∨ b ρ1 = .ct ρ2) ∧ I (i + j + 1) ρ2) → I i ρ → ∃ ρ', forL g b ds ρ = .nx ρ' ∧ I (i + ds.length) ρ'
  | [], i, ρ, _, h => ⟨ρ, rfl, h⟩
  | d :: ds, i, ρ, hs, h => by
    obtain ⟨ρ1, ρ2, e1, e2, h2⟩ := hs 0 d ρ rfl h
    obtain ⟨ρ', e3, h3⟩ := forL_inv I ds (i + 1) ρ2 (fun j d' ρ' e h' => by
      have := hs (j + 1) d' ρ' (by simpa using e) (by rw [show i + (j + 1) = i + 1 + j by omega]; exact h')
      rw [show i + (j + 1) + 1 = i + 1 + j + 1 by omega] at this
      exact this) h2
    refine ⟨ρ', ?_, by rw [List.length_cons, show i + (ds.length + 1) = i + 1 + ds.length by omega]; exact h3⟩
    rw [forL_cons, e1]
    rcases e2 with e2 | e2 <;> (simp only [e2]; exact e3)
/-- ifs carried out -/
theorem R.bind_ite {α β : Type} (c : Prop) [Decidable c] (a b : R α) (f : α → R β) : (if c then a else b).bind f = if c then a.bind f else b.bind f := by split <;> rfl
theorem R.st_ite {α : Type} (c : Prop) [Decidable c] (a b : R α) (ρ : Env) (f : α → SR) : (if c then a else b).st ρ f = if c then a.st ρ f else b.st ρ f := by split <;> rfl
theorem SR.at_ite (c : Prop) [Decidable c] (a b : SR) (f : Env → SR) : (if c then a else b).andThen f = if c then a.andThen f else b.andThen f := by split <;> rfl
theorem SR.out_ite (c : Prop) [Decidable c] (a b : SR) : (if c then a else b).out = if c then a.out else b.out := by split <;> rfl
end Dv
end
section
set_option maxRecDepth 100000
set_option maxHeartbeats 1000000
namespace Dv
open PySem PySem.Spec PyProof.Rows L2

/-! ### the built-ins' names -/
theorem bb_len : bootBuiltins "len" = some (.builtin "len") := by decide +kernel
theorem bb_abs : bootBuiltins "abs" = some (.builtin "abs") := by decide +kernel
theorem bb_max : bootBuiltins "max" = some (.builtin "max") := by decide +kernel
theorem bb_min : bootBuiltins "min" = some (.builtin "min") := by decide +kernel
theorem bb_ord : bootBuiltins "ord" = some (.builtin "ord") := by decide +kernel
theorem bb_sum : bootBuiltins "sum" = some (.builtin "sum") := by decide +kernel
theorem bb_sorted : bootBuiltins "sorted" = some (.builtin "sorted") := by decide +kernel
theorem bb_all : bootBuiltins "all" = some (.builtin "all") := by decide +kernel
theorem bb_any : bootBuiltins "any" = some (.builtin "any") := by decide +kernel
theorem bb_isinstance : bootBuiltins "isinstance" = some (.builtin "isinstance") := by decide +kernel
theorem bb_int : bootBuiltins "int" = some (.type "int") := by decide +kernel
theorem bb_bool : bootBuiltins "bool" = some (.type "bool") := by decide +kernel
theorem bb_str : bootBuiltins "str" = some (.type "str") := by decide +kernel
theorem bb_list : bootBuiltins "list" = some (.type "list") := by decide +kernel
theorem bb_tuple : bootBuiltins "tuple" = some (.type "tuple") := by decide +kernel

/-! ### the law's end -/
def spLaw (K : PySem.W.Frag) : Sp := fun vs H Q _ => ∃ (a : Addr) (ns : List Int), vs = [.ref a] ∧ SqL K H a (ns.map V.int) ∧ ns.length ≤ 63 ∧ ∀ H', Q (.bl true) H'
theorem rp_dInts {k : Kx} {F H : Hp} : ∀ ns : List Int, RpL k F H (dInts ns) (ns.map V.int) []
  | [] => ⟨rfl, rfl⟩
  | n :: ns => ⟨.int n, ns.map V.int, [], [], rfl, rfl, ⟨rfl, rfl⟩, rp_dInts ns⟩
theorem end_of {P : Program} {w : World} {K : PySem.W.Frag} {mg : Str → Option Value} {base : Heap} {kx : Kx} {ec : Nat → Value} {k : Nat} {f : Addr} {fd : FuncData} {ps : List Str} {g : List D → R D} (G : FnOk P w K mg base (L2.CX P w) k f fd ps (spD kx ec 1 g)) (hK : kx.K = K)
    (h : ∀ ns : List Int, ns.length ≤ 63 → g [.scr (dInts ns)] = .ok (.bl true)) : FnOk P w K mg base (L2.CX P w) k f fd ps (spLaw K) := by
  refine G.imp fun vs H Q Ew ⟨a, ns, e, s, hl, q⟩ => ?_
  subst e
  refine ⟨H, [.scr (dInts ns)], .refl _, ⟨.ref a, [], [], [], rfl, rfl, ⟨a, _, rfl, rfl, by rw [hK]; exact s, rp_dInts ns⟩, rfl, rfl⟩, ?_, rfl, ?_⟩
  · simp
  · rw [h ns hl]
    intro F' H' v A t r _ _
    rw [r.1]
    exact q H'
theorem callF_pure {n : Nat} {f : List D → R D} {ds : List D} (hl : ds.length = n) (hp : D.pureL ds = true) : callF n f ds = f ds := by
  unfold callF
  rw [if_pos hl, if_pos hp]
theorem cx_no {P : Program} {w : World} {outer : List PySem.Env} {H : Hp} {s : Shared} {e : Value} {s' : Shared} (h : L2.CX P w outer H s (fun _ _ _ => False) e s') : False := by
  obtain ⟨_, _, _, _, _, _, _, _, _, _, _, _, z⟩ := h
  exact z
end Dv
end
section
set_option maxRecDepth 100000
set_option maxHeartbeats 1000000
namespace Dv
open PySem PySem.Spec PyProof.Rows L2

/-! ### comprehensions -/
def wipeE (ρ : Env) : List Nat → Env
  | [] => ρ
  | v :: vs => (wipeE ρ vs).set v none
@[simp] theorem wipeE_nil (ρ : Env) : wipeE ρ [] = ρ := rfl
@[simp] theorem wipeE_cons (ρ : Env) (v : Nat) (vs : List Nat) : wipeE ρ (v :: vs) = (wipeE ρ vs).set v none := rfl
theorem wipe_ext {σ σ' : L2.St} (hl : σ.length = σ'.length) : ∀ {vs : List Nat}, (∀ j, j ∉ vs → σ[j]? = σ'[j]?) → wipe σ vs = wipe σ' vs := fun {vs} h => by
  refine List.ext_getElem? fun j => ?_
  by_cases hj : j ∈ vs
  · have go : ∀ (τ : L2.St) (vs : List Nat), j ∈ vs → j < τ.length → (wipe τ vs)[j]? = some none := fun τ vs => by
      induction vs with
      | nil => intro h; cases h
      | cons v vs ih =>
        intro h hlt
        show ((wipe τ vs).set v none)[j]? = some none
        by_cases q : v = j
        · rw [q, List.getElem?_set_self (by rw [wipe_length]; exact hlt)]
        · rw [List.getElem?_set_ne q]
          exact ih ((List.mem_cons.mp h).resolve_left fun z => q z.symm) hlt
    by_cases hlt : j < σ.length
    · rw [go σ vs hj hlt, go σ' vs hj (by omega)]
    · rw [List.getElem?_eq_none (by rw [wipe_length]; omega), List.getElem?_eq_none (by rw [wipe_length]; omega)]
  · rw [wipe_out hj, wipe_out hj, h j hj]
theorem wipe_set {σ : L2.St} {i : Nat} {x : Option V} {vs : List Nat} (h : i ∈ vs) : wipe (σ.set i x) vs = wipe σ vs :=
  wipe_ext (by rw [List.length_set]) fun j hj => List.getElem?_set_ne fun z => hj (by rw [← z]; exact h)
theorem wipe_wipe {σ : L2.St} {vs : List Nat} : wipe (wipe σ vs) vs = wipe σ vs := wipe_ext (by rw [wipe_length]) fun j hj => wipe_out hj
section
variable {E : En}
theorem Stt.unset {F H : Hp} {σ : L2.St} {ρ : Env} {i : Nat} (s : Stt E F H σ ρ) (hb : i ∉ E.bs) : Stt E F H (σ.set i none) (ρ.set i none) := by
  obtain ⟨fp, sl⟩ := s.sl
  refine ⟨s.e0, s.fh, s.fr, s.st, s.bt, by rw [List.length_set, List.length_set]; exact s.len, fun j hj => ?_, fun j => if j = i then [] else fp j, fun j d' e => ?_, fun j e => ?_, fun j => ?_, fun j j' a ha ha' => ?_, fun j a ha => ?_⟩
  · rw [List.getElem?_set_ne (fun z => hb (by rw [z]; exact hj))]
    exact s.bv j hj
  · by_cases q : j = i
    · subst q
      by_cases hi : j < ρ.length
      · rw [List.getElem?_set_self hi] at e; cases e
      · rw [List.getElem?_eq_none (by rw [List.length_set]; omega)] at e; cases e
    · rw [List.getElem?_set_ne (Ne.symm q)] at e
      obtain ⟨v', e', r'⟩ := sl.rp j d' e
      refine ⟨v', by rw [List.getElem?_set_ne (Ne.symm q)]; exact e', ?_⟩
      show Rp E.k F H d' v' (if j = i then [] else fp j)
      rw [if_neg q]
      exact r'
  · show (if j = i then [] else fp j) = []
    by_cases q : j = i
    · rw [if_pos q]
    · rw [List.getElem?_set_ne (Ne.symm q)] at e
      rw [if_neg q]
      exact sl.em j e
  · show (if j = i then [] else fp j).Nodup
    by_cases q : j = i
    · rw [if_pos q]; exact .nil
    · rw [if_neg q]; exact sl.nd j
  · have ha : a ∈ (if j = i then [] else fp j) := ha
    have ha' : a ∈ (if j' = i then [] else fp j') := ha'
    by_cases q : j = i
    · rw [if_pos q] at ha; cases ha
    · rw [if_neg q] at ha
      by_cases q' : j' = i
      · rw [if_pos q'] at ha'; cases ha'
      · rw [if_neg q'] at ha'
        exact sl.dj j j' a ha ha'
  · have ha : a ∈ (if j = i then [] else fp j) := ha
    by_cases q : j = i
    · rw [if_pos q] at ha; cases ha
    · rw [if_neg q] at ha
      exact sl.nw j a ha
theorem Stt.wipe {F H : Hp} {σ : L2.St} {ρ : Env} (s : Stt E F H σ ρ) : ∀ {vs : List Nat}, (∀ v ∈ vs, v ∉ E.bs) → Stt E F H (L2.wipe σ vs) (wipeE ρ vs)
  | [], _ => s
  | v :: vs, h => (Stt.wipe s fun v hv => h v (List.mem_cons_of_mem _ hv)).unset (h v List.mem_cons_self)
end
/-! targets of a block: only its own names are touched -/
def tGw (E : En) (g : D → Env → Option Env) (vs : List Nat) : TG := fun v σ H Q => ∃ F ρ d, Stt E F H σ ρ ∧ d.pure = true ∧ Rp E.k F H d v [] ∧ ∃ ρ', g d ρ = some ρ' ∧ ∀ σ', Stt E F H σ' ρ' → L2.wipe σ' vs = L2.wipe σ vs → Q σ' H
def tGsw (E : En) (g : List D → Env → Option Env) (vs : List Nat) : TGs := fun ws σ H Q => ∃ F ρ ds, Stt E F H σ ρ ∧ D.pureL ds = true ∧ RpL E.k F H ds ws [] ∧ ∃ ρ', g ds ρ = some ρ' ∧ ∀ σ', Stt E F H σ' ρ' → L2.wipe σ' vs = L2.wipe σ vs → Q σ' H
structure EGw (X : Cx) (E : En) (vs : List Nat) (e : Expr) (g : D → Env → Option Env) : Prop where
  pg : PG X e (tGw E g vs)
structure EGsw (X : Cx) (E : En) (vs : List Nat) (es : List Expr) (g : List D → Env → Option Env) : Prop where
  pg : PGs X es (tGsw E g vs)
section
variable {X : Cx} {E : En} {W : WX} {vs : List Nat}
theorem egw_name {i : Nat} {x : Str} {pos : Pos} (hv : i ∈ vs) (hN : X.N.Nodup) (hi : X.N[i]? = some x) (hx : Loc X.env.scope x) (hb : i ∉ E.bs) (hf : X.fn x = true ∨ X.env.scope.names.lookup x = some .local := by first | exact .inl rfl | exact .inr rfl | assumption) : EGw X E vs (.Name x pos) (gNm i) := by
  refine ⟨pg_mono (pg_name hN hi hx hf) fun v σ H Q h => ?_⟩
  obtain ⟨F, ρ, d, s, p, r, ρ', e, q⟩ := h
  cases e
  exact q _ (s.set (Tr.refl s.fh) r .nil (fun _ z => nomatch z) hb) (wipe_set hv)
theorem egsw_nil : EGsw X E vs [] gsNil := by
  refine ⟨pgs_mono pgs_nil fun vs σ H Q h => ?_⟩
  obtain ⟨F, ρ, ds, s, p, r, ρ', e, q⟩ := h
  cases ds with
  | nil => cases e; exact ⟨r.1, q σ s rfl⟩
  | cons d ds => cases e
theorem egsw_cons {e : Expr} {es : List Expr} {g : D → Env → Option Env} {gs : List D → Env → Option Env} (h1 : EGw X E vs e g) (h2 : EGsw X E vs es gs)
    (hs : (assignEach (e :: es) X.env).map (·.2) = assign e X.env :: (assignEach es X.env).map (·.2) := by rfl) : EGsw X E vs (e :: es) (gsCons g gs) := by
  refine ⟨pgs_mono (pgs_cons h1.pg h2.pg hs) fun ws σ H Q h => ?_⟩
  obtain ⟨F, ρ, ds, s, p, r, ρ', e, q⟩ := h
  cases ds with
  | nil => cases e
  | cons d ds =>
    obtain ⟨v, ws, B, C, e1, e2, r1, r2⟩ := r
    obtain ⟨rfl, rfl⟩ := List.append_eq_nil_iff.mp e2.symm
    have p' : d.pure = true ∧ D.pureL ds = true := by simpa [D.pureL] using p
    rw [gsCons_cons] at e
    cases eg : g d ρ with
    | none => rw [eg] at e; cases e
    | some ρ1 =>
      rw [eg] at e
      exact ⟨v, ws, e1, F, ρ, d, s, p'.1, r1, ρ1, eg, fun σ' s' w' => ⟨F, ρ1, ds, s', p'.2, r2, ρ', e, fun σ2 s2 w2 => q σ2 s2 (w2.trans w')⟩⟩
theorem egw_tup {es : List Expr} {k : Nat} {gs : List D → Env → Option Env} {pos : Pos} (hK : E.k.K = X.K) (hc : X.calm = true) (h : EGsw X E vs es gs) (n : Nat) (hlen : ∀ ds ρ ρ', gs ds ρ = some ρ' → ds.length = n)
    (hn : (assignEach es X.env).length = n := by rfl) (hst : (assignEach es X.env).findIdx? (·.1) = none := by rfl) : EGw X E vs (.Tuple es k pos) (gTp gs) := by
  refine ⟨pg_mono (pg_tup hc h.pg hn hst) fun v σ H Q h => ?_⟩
  obtain ⟨F, ρ, d, s, p, r, ρ', e, q⟩ := h
  cases d with
  | tup ds =>
    obtain ⟨a, vs, rfl, s1, r⟩ := r
    exact ⟨a, vs, rfl, by rw [← hK]; exact ex_t s.fh s1, by rw [← r.len]; exact hlen ds ρ ρ' e, F, ρ, ds, s, p, r, ρ', e, q⟩
  | _ => cases e
end
/-! tests of a clause -/
structure ETs (X : Cx) (E : En) (W : WX) (ifs : List Expr) (f : Env → R Bool) : Prop where
  pt : PTs X ifs (tT E W f)
def tYes : Env → R Bool := fun _ => .ok true
@[simp] theorem tYes_eq (ρ : Env) : tYes ρ = .ok true := rfl
section
variable {X : Cx} {E : En} {W : WX}
theorem pts_mono {es : List Expr} {t t' : TT} (h : PTs X es t) (i : ∀ σ H Q, t' σ H Q → t σ H Q) : PTs X es t' := ⟨fun pins s σ H Q I q => h.run pins s σ H Q I (i σ H Q q)⟩
theorem ets_nil : ETs X E W [] tYes := ⟨pts_mono pts_nil fun σ H Q ⟨F, ρ, s, q⟩ => q F H (Tr.refl s.fh)⟩
theorem ets_one {e : Expr} {f : Env → R Bool} (h : ET X E W e f) : ETs X E W [e] f := ⟨pts_one h.pt⟩
/-- exceptions are not let out of a block -/
def R.calm {α : Type} : R α → R α
  | .ok a => .ok a
  | _ => .no
@[simp] theorem R.calm_ok {α : Type} (a : α) : (R.ok a).calm = .ok a := rfl
@[simp] theorem R.calm_no {α : Type} : (R.no : R α).calm = .no := rfl
theorem R.calm_of {α β : Type} {r : R α} {f : α → R β} {P : β → Prop} {Ew : Nat → Prop} (h : Res (r.calm.bind f) P Ew) : ∃ a, r = .ok a ∧ Res (f a) P Ew := by
  cases r with
  | no => exact h.elim
  | ok a => exact ⟨a, rfl, h⟩
  | ex c => exact h.elim
def lcL (g : D → Env → Option Env) (t : Env → R Bool) (f : Env → R D) (ρ : Env) : List D → List D → R D
  | [], acc => .ok (.lst true acc)
  | d :: ds, acc => match g d ρ with
    | none => .no
    | some ρ1 => (t ρ1).calm.bind fun b => if b = true then (f ρ1).calm.bind fun y => if acc.length < 16777216 then lcL g t f ρ ds (acc ++ [y]) else .no else lcL g t f ρ ds acc
theorem lcL_nil (g : D → Env → Option Env) (t : Env → R Bool) (f : Env → R D) (ρ : Env) (acc : List D) : lcL g t f ρ [] acc = .ok (.lst true acc) := rfl
theorem lcL_cons (g : D → Env → Option Env) (t : Env → R Bool) (f : Env → R D) (ρ : Env) (d : D) (ds acc : List D) : lcL g t f ρ (d :: ds) acc = match g d ρ with
    | none => .no
    | some ρ1 => (t ρ1).calm.bind fun b => if b = true then (f ρ1).calm.bind fun y => if acc.length < 16777216 then lcL g t f ρ ds (acc ++ [y]) else .no else lcL g t f ρ ds acc := rfl
def eLc (it : Env → R (List D)) (g : D → Env → Option Env) (t : Env → R Bool) (f : Env → R D) (vs : List Nat) : Env → R D := fun ρ => (it ρ).bind fun ds => lcL g t f (wipeE ρ vs) ds []
@[simp] theorem eLc_eq (it : Env → R (List D)) (g : D → Env → Option Env) (t : Env → R Bool) (f : Env → R D) (vs : List Nat) (ρ : Env) : eLc it g t f vs ρ = (it ρ).bind fun ds => lcL g t f (wipeE ρ vs) ds [] := rfl
abbrev WN : WX := fun _ _ _ _ => False
theorem takes_no {X : Cx} : Takes X WN := fun u s' ⟨a, B, sI, pins, σ, H, cls, d, e, I, nb, up, sky, na, os, ag, w⟩ => w.elim
/-- a list under way: it is new, what it owns is new -/
structure Acc (k : Kx) (F1 H1 F H : Hp) (D0 : Addr) (acc : List D) : Prop where
  tr : Tr F1 H1 F H
  rp : ∃ vs A, H D0 = some (.lst vs) ∧ F D0 = none ∧ RpL k F H acc vs A ∧ (D0 :: A).Nodup ∧ ∀ a ∈ D0 :: A, H1 a = none
theorem Acc.start {k : Kx} {F H : Hp} {p : Addr} (fh : Ex F H) (h : H p = none) : Acc k F H F (upd H p (.lst [])) p [] := by
  have hf : F p = none := by
    cases q : F p with
    | none => rfl
    | some u => rw [fh p u q] at h; cases h
  exact ⟨tr_new fh h, [], [], upd_same, hf, ⟨rfl, rfl⟩, by simp, fun a ha => by rw [List.mem_singleton.mp ha]; exact h⟩
theorem Acc.next {k : Kx} {F1 H1 F H F' H' : Hp} {p : Addr} {acc : List D} (a : Acc k F1 H1 F H p acc) (t : Tr F H F' H') : Acc k F1 H1 F' H' p acc := by
  obtain ⟨vs, A, h1, h2, h3, h4, h5⟩ := a.rp
  exact ⟨a.tr.trans t, vs, A, t.hh _ _ h1, t.no _ h2 (by rw [h1]; exact fun z => nomatch z), h3.tr t, h4, h5⟩
theorem Acc.add {k : Kx} {F1 H1 F H F' H' : Hp} {p : Addr} {acc : List D} {d : D} {v : V} {A : List Addr} (a : Acc k F1 H1 F H p acc) (t : Tr F H F' H') (r : Rp k F' H' d v A) (nd : A.Nodup) (u : ∀ x ∈ A, H x = none) :
    ∃ vs, H' p = some (.lst vs) ∧ vs.length = acc.length ∧ Acc k F1 H1 F' (upd H' p (.lst (vs ++ [v]))) p (acc ++ [d]) := by
  obtain ⟨vs, B, g1, g2, g3, h4, h5⟩ := a.rp
  have pH : H p ≠ none := by rw [g1]; exact fun z => nomatch z
  have h1 := t.hh _ _ g1
  have h2 := t.no _ g2 pH
  have h3 := g3.tr t
  have pA : p ∉ A := fun z => pH (u p z)
  have pB : p ∉ B := (List.nodup_cons.mp h4).1
  have up : ∀ x, H1 x ≠ none → H x ≠ none := fun x hx => by
    cases q : H1 x with
    | none => exact absurd q hx
    | some o => rw [a.tr.hh x o q]; exact fun z => nomatch z
  have A1 : ∀ x ∈ A, H1 x = none := fun x hx => Classical.byContradiction fun z => up x z (u x hx)
  refine ⟨vs, h1, h3.len.symm, ⟨(a.next t).tr.ff, fun x o e => ?_, fun x o e => ?_, (a.next t).tr.no⟩, vs ++ [v], B ++ A, upd_same, h2, (h3.upd pB).append (RpL.one (r.upd pA)), ?_, fun x hx => ?_⟩
  · rw [upd_ne fun z => by rw [z, h5 p List.mem_cons_self] at e; cases e]
    exact (a.next t).tr.hh x o e
  · rw [upd_ne fun z => by rw [z, h2] at e; cases e]
    exact (a.next t).tr.fh x o e
  · refine List.nodup_cons.mpr ⟨fun z => (List.mem_append.mp z).elim pB pA, List.nodup_append.mpr ⟨(List.nodup_cons.mp h4).2, nd, fun x hx y hy z => ?_⟩⟩
    subst z
    obtain ⟨_, o, h6, _⟩ := RpL.dom _ _ _ g3 x hx
    rw [u x hy] at h6; cases h6
  · rcases List.mem_cons.mp hx with rfl | hx
    · exact h5 _ List.mem_cons_self
    · rcases List.mem_append.mp hx with hx | hx
      · exact h5 x (List.mem_cons_of_mem _ hx)
      · exact A1 x hx
/-- the block's context -/
theorem lc_imp {it : Env → R (List D)} {g : D → Env → Option Env} {t : Env → R Bool} {f : Env → R D} {vs : List Nat} (hb : ∀ v ∈ vs, v ∉ E.bs) {F H : Hp} {σ : L2.St} {ρ : Env} {Q : VK} (s : Stt E F H σ ρ)
    (q : Res (eLc it g t f vs ρ) (fun d => ∀ F' H' v A, Tr F H F' H' → Rp E.k F' H' d v A → A.Nodup → (∀ a ∈ A, H a = none) → Q v H') (fun c => ∀ F' H', Tr F H F' H' → W (E.ec c) none σ H')) :
    tLc (tI E W it) (tGw E g vs) (tT E WN t) (tO E WN f) vs σ H Q := by
  refine ⟨F, ρ, s, Res.mono q.bind (fun ds _ q F1 H1 J t1 wk p hp => ?_) fun c _ z F' H' t => z F' H' t⟩
  have s1 := s.tr t1
  refine ⟨fun i m H' => ∃ F' acc, Acc E.k F1 H1 F' H' p acc ∧ i ≤ ds.length ∧ m = ds.length - i ∧ Res (lcL g t f (wipeE ρ vs) (ds.drop i) acc) (fun d => ∀ F' H' v A, Tr F H F' H' → Rp E.k F' H' d v A → A.Nodup → (∀ a ∈ A, H a = none) → Q v H') (fun c => ∀ F' H', Tr F H F' H' → W (E.ec c) none σ H'), ⟨_, F1, [], Acc.start t1.fh hp, Nat.zero_le _, rfl, q⟩, ?_⟩
  rintro i m H' ⟨F', acc, ac, hi, rfl, q'⟩
  have fh' := ac.tr.fh
  by_cases hlt : i < ds.length
  · have ed : ds.drop i = ds[i] :: ds.drop (i + 1) := List.drop_eq_getElem_cons hlt
    rw [ed, lcL_cons] at q'
    refine .inr ⟨wk.go i hlt F' H' ac.tr.ff fh', fun H2 => ∃ F2 acc2, Acc E.k F1 H1 F2 H2 p acc2 ∧ Res (lcL g t f (wipeE ρ vs) (ds.drop (i + 1)) acc2) (fun d => ∀ F' H' v A, Tr F H F' H' → Rp E.k F' H' d v A → A.Nodup → (∀ a ∈ A, H a = none) → Q v H') (fun c => ∀ F' H', Tr F H F' H' → W (E.ec c) none σ H'), ?_, fun v H2 y => ?_⟩
    · rintro H2 ⟨F2, acc2, a2, q2⟩
      exact ⟨_, by omega, F2, acc2, a2, hlt, rfl, q2⟩
    · obtain ⟨pd, F2, t2, r2⟩ := wk.yld i ds[i] (List.getElem?_eq_getElem hlt) F' H' v H2 ac.tr.ff fh' y
      cases eg : g ds[i] (wipeE ρ vs) with
      | none => rw [eg] at q'; exact q'.elim
      | some ρ1 =>
        rw [eg] at q'
        have a2 := ac.next t2
        refine ⟨F2, wipeE ρ vs, ds[i], (s1.tr a2.tr).wipe hb, pd, r2, ρ1, eg, fun σ3 s3 w3 => ⟨w3.trans wipe_wipe, ?_⟩⟩
        obtain ⟨b, eb, q'⟩ := R.calm_of q'
        refine ⟨F2, ρ1, s3, ?_⟩
        rw [eb]
        show ∀ F' H', Tr F2 H2 F' H' → _
        intro F3 H3 t3
        have a3 := a2.next t3
        cases b with
        | false => exact ⟨F3, acc, a3, q'⟩
        | true =>
          obtain ⟨y, ey, q'⟩ := R.calm_of q'
          rw [if_pos rfl]
          refine ⟨F3, ρ1, s3.tr t3, ?_⟩
          rw [ey]
          show ∀ F' H' v A, Tr F3 H3 F' H' → _
          intro F4 H4 v4 A4 t4 r4 nd4 u4
          obtain ⟨ws, e1, e2, a4⟩ := a3.add t4 r4 nd4 u4
          by_cases hz : acc.length < 16777216
          · rw [if_pos hz] at q'
            exact ⟨ws, e1, Nat.lt_of_lt_of_eq (by rw [e2]; exact hz) sizeLine_eq.symm, F4, _, a4, q'⟩
          · rw [if_neg hz] at q'; exact q'.elim
  · have e : i = ds.length := by omega
    subst e
    rw [List.drop_length, lcL_nil] at q'
    obtain ⟨ws, A, h1, h2, h3, h4, h5⟩ := ac.rp
    refine .inl ⟨wk.stop F' H' ac.tr.ff fh', q' F' H' (.ref p) (p :: A) (t1.trans ac.tr) ⟨p, ws, A, rfl, h3, (fun z => nomatch z), fun _ => ⟨rfl, h2, h1⟩⟩ h4 fun a ha => none_back t1.hh (h5 a ha)⟩
theorem eo_lc {elt tg iter : Expr} {ifs : List Expr} {scope : Scope} {own : List (Str × Nat)} {pos : Pos} {it : Env → R (List D)} {g : D → Env → Option Env} {t : Env → R Bool} {f : Env → R D} (hc : X.calm = true) (hN : X.N.Nodup) (hi : EI X E W tg iter it) (ok : blkC X.N X.env.scope scope own = true)
    (hg : ∀ (s : Shared) (H : Hp) (C : Addr) (cl : List (Str × Addr)) (fp : List Addr), EGw (X.blk s H scope (compEnvC scope cl C X.env) fp) E (own.map (·.2)) tg g) (ht : ∀ (s : Shared) (H : Hp) (C : Addr) (cl : List (Str × Addr)) (fp : List Addr) (tk : Takes (X.blk s H scope (compEnvC scope cl C X.env) fp) WN), ETs (X.blk s H scope (compEnvC scope cl C X.env) fp) E WN ifs t)
    (he : ∀ (s : Shared) (H : Hp) (C : Addr) (cl : List (Str × Addr)) (fp : List Addr) (tk : Takes (X.blk s H scope (compEnvC scope cl C X.env) fp) WN), EO (X.blk s H scope (compEnvC scope cl C X.env) fp) E WN elt f) (hb : ∀ v ∈ own.map (·.2), v ∉ E.bs) (hs : ∀ x, foldedSetIterable iter X.env x = pure x := by intro _; rfl) :
    EO X E W (.ListComp elt [⟨tg, iter, ifs, 0⟩] scope pos) (eLc it g t f (own.map (·.2))) :=
  ⟨pe_mono (pe_lc hc hN hi.pi (blkOk_by ok) (fun s H C cl fp => (hg s H C cl fp).pg) (fun s H C cl fp => (ht s H C cl fp takes_no).pt) (fun s H C cl fp => (he s H C cl fp takes_no).pe) hs) fun σ H Q ⟨F, ρ, s, q⟩ => lc_imp hb s q⟩
theorem ss_setLc {i : Nat} {y : Str} {py : Pos} {elt tg iter : Expr} {ifs : List Expr} {scope : Scope} {own : List (Str × Nat)} {pos spos : Pos} {it : Env → R (List D)} {g : D → Env → Option Env} {t : Env → R Bool} {f : Env → R D} (hc : X.calm = true) (hN : X.N.Nodup) (hy : X.N[i]? = some y) (hyl : X.env.scope.names.lookup y = some .local) (hyb : i ∉ E.bs)
    (hk : X.env.scope.kind = .function) (hl : (py.line == pos.line) = true) (hsp : (pos.line == spos.line) = true) (ha : (scope.names.any fun (n, k) => n == y && (k == .local || k == .cell)) = false)
    (hi : EI X E W tg iter it) (ok : blkC X.N X.env.scope scope own = true)
    (hg : ∀ (s : Shared) (H : Hp) (C : Addr) (cl : List (Str × Addr)) (fp : List Addr), EGw (X.blk s H scope (compEnvC scope cl C X.env) fp) E (own.map (·.2)) tg g) (ht : ∀ (s : Shared) (H : Hp) (C : Addr) (cl : List (Str × Addr)) (fp : List Addr) (tk : Takes (X.blk s H scope (compEnvC scope cl C X.env) fp) WN), ETs (X.blk s H scope (compEnvC scope cl C X.env) fp) E WN ifs t)
    (he : ∀ (s : Shared) (H : Hp) (C : Addr) (cl : List (Str × Addr)) (fp : List Addr) (tk : Takes (X.blk s H scope (compEnvC scope cl C X.env) fp) WN), EO (X.blk s H scope (compEnvC scope cl C X.env) fp) E WN elt f) (hb : ∀ v ∈ own.map (·.2), v ∉ E.bs) (hs : ∀ x, foldedSetIterable iter X.env x = pure x := by intro _; rfl) :
    SS X E W (.Assign [.Name y py] (.ListComp elt [⟨tg, iter, ifs, 0⟩] scope pos) spos) (sAsg i (eLc it g t f (own.map (·.2)))) := by
  have hsw : swapsWith (.ListComp elt [⟨tg, iter, ifs, 0⟩] scope pos) (some (.Name y py)) spos.line X.env = pure true := by
    rw [← beq_iff_eq.mp hsp]
    exact sw_true hk hyl hl ha
  refine ⟨ps_mono (ps_setLc hc hN hy hyl hsw hi.pi (blkOk_by ok) (fun s H C cl fp => (hg s H C cl fp).pg) (fun s H C cl fp => (ht s H C cl fp takes_no).pt) (fun s H C cl fp => (he s H C cl fp takes_no).pe) hs) fun Z σ H h => ?_⟩
  obtain ⟨F, ρ, s, q⟩ := h
  refine lc_imp hb s (Res.mono q.st (fun d _ q F1 H1 v A t1 r1 nd u => ?_) fun c _ z => SRes.exc s z)
  exact q F1 H1 _ t1.ff (s.set t1 r1 nd u hyb)
end
end Dv
end
section
set_option maxRecDepth 100000
set_option maxHeartbeats 1000000
namespace Dv
open PySem PySem.Spec PyProof.Rows L2

section
variable {X : Cx} {E : En} {W : WX}
/-! ### lists that change, once more -/
theorem Sl.tr {F H F' H' : Hp} {σ : L2.St} {ρ : Env} {fp : Nat → List Addr} (sl : Sl E F H σ ρ fp) (t : Tr F H F' H') : Sl E F' H' σ ρ fp :=
  ⟨fun j d e => let ⟨v, ev, r⟩ := sl.rp j d e; ⟨v, ev, r.tr t⟩, sl.em, sl.nd, sl.dj, sl.nw⟩
/-- the list in a slot may get other items: what it owned, or what is new -/
theorem Stt.lst {F H : Hp} {σ : L2.St} {ρ : Env} {fp : Nat → List Addr} {i : Nat} {xs : List D} (s : Stt E F H σ ρ) (sl : Sl E F H σ ρ fp) (e : ρ[i]? = some (some (.lst true xs))) :
    ∃ l vs B, σ[i]? = some (some (.ref l)) ∧ H l = some (.lst vs) ∧ RpL E.k F H xs vs B ∧ (∀ a ∈ B, a ∈ fp i) ∧ B.Nodup ∧
      ∀ xs' vs' C, RpL E.k F H xs' vs' C → C.Nodup → (∀ a ∈ C, a ∈ B ∨ (E.He a = none ∧ ∀ j, a ∉ fp j)) → Stt E F (upd H l (.lst vs')) σ (ρ.set i (some (.lst true xs'))) := by
  obtain ⟨v, ev, r⟩ := sl.rp i _ e
  obtain ⟨l, vs, B, rfl, eA, fl, hl, rl⟩ := lstO r
  have lfp : l ∈ fp i := by rw [eA]; exact List.mem_cons_self
  have Bfp : ∀ a ∈ B, a ∈ fp i := fun a ha => by rw [eA]; exact List.mem_cons_of_mem _ ha
  have ndi := sl.nd i
  rw [eA] at ndi
  have lB : l ∉ B := (List.nodup_cons.mp ndi).1
  refine ⟨l, vs, B, ev, hl, rl, Bfp, (List.nodup_cons.mp ndi).2, fun xs' vs' C rC nC uC => ?_⟩
  have lC : l ∉ C := fun z => (uC l z).elim lB fun h => h.2 i lfp
  refine s.write sl (v := .ref l) (A' := l :: C) lfp ev ⟨l, vs', C, rfl, rC.upd lC, (fun z => nomatch z), fun _ => ⟨rfl, fl, upd_same⟩⟩ (List.nodup_cons.mpr ⟨lC, nC⟩) fun a ha => ?_
  rcases List.mem_cons.mp ha with rfl | ha
  · exact .inl lfp
  · exact (uC a ha).imp_left fun h => Bfp a h
/-- what is new stands in no slot -/
theorem Stt.fresh {F H : Hp} {σ : L2.St} {ρ : Env} {fp : Nat → List Addr} (s : Stt E F H σ ρ) (sl : Sl E F H σ ρ fp) {a : Addr} (u : H a = none) : E.He a = none ∧ ∀ j, a ∉ fp j :=
  ⟨s.new u, fun j hj => (sl.there hj).2 u⟩
def ixK (n : Nat) (i : Int) : Option Nat := L2.ixN n i
/-- name[i] = e -/
def sSet (i : Nat) (fi f : Env → R D) : Env → SR := fun ρ => (f ρ).st ρ fun d => onL i ρ fun xs => (fi ρ).st ρ fun j => match j with
  | .int j => match L2.ixN xs.length j with
    | some k => .nx (ρ.set i (some (.lst true (xs.set k d))))
    | none => .no
  | _ => .no
@[simp] theorem sSet_eq (i : Nat) (fi f : Env → R D) (ρ : Env) : sSet i fi f ρ = (f ρ).st ρ fun d => onL i ρ fun xs => (fi ρ).st ρ fun j => match j with
  | .int j => match L2.ixN xs.length j with
    | some k => .nx (ρ.set i (some (.lst true (xs.set k d))))
    | none => .no
  | _ => .no := rfl
theorem ss_setL {i : Nat} {o ix e : Expr} {fi f : Env → R D} {sp pos : Pos} (ho : PE X o (tVar i)) (h : EO X E W e f) (hx : EV X E W ix fi)
    (ha : ∀ v, assign (.Subscript o ix sp) X.env v = (do
      let ov ← holding [v] (eval o X.env)
      let iv ← holding [v, ov] (eval ix X.env)
      standAt sp
      holding [v, ov, iv] (setItem ov iv v)
      release [v, ov, iv] []) := by intro _; rfl)
    (hs : swapsWithSole [.Subscript o ix sp] e pos.line X.env = pure false := by rfl) (hw : swappedStores [.Subscript o ix sp] e X.env = pure none := by rfl)
    (h1 : (assignEach [.Subscript o ix sp] X.env).map (·.2) = [assign (.Subscript o ix sp) X.env] := by rfl) :
    SS X E W (.Assign [.Subscript o ix sp] e pos) (sSet i fi f) := by
  refine ⟨ps_mono (ps_asg h.pe (pg_sub ho hx.pe set_list ha) hs hw h1) fun Z σ H h => ?_⟩
  obtain ⟨F, ρ, s, q⟩ := h
  refine ⟨F, ρ, s, Res.mono q.st (fun d _ q F1 H1 w A t1 r1 nd u => ?_) fun c _ z => SRes.exc s z⟩
  obtain ⟨xs, e, q⟩ := onL_of q
  obtain ⟨fp, sl⟩ := s.sl
  obtain ⟨v, ev, r⟩ := sl.rp i _ e
  refine ⟨v, ev, F1, ρ, s.tr t1, Res.mono q.st (fun j _ q F2 H2 jv B t2 r2 => ?_) fun c _ z F' H' t => SRes.exc s z F' H' (t1.trans t)⟩
  cases j with
  | int j =>
    have q : SRes E W F Z (match L2.ixN xs.length j with
      | some k => .nx (ρ.set i (some (.lst true (xs.set k d))))
      | none => .no) := q
    have t12 := t1.trans t2
    obtain ⟨l, vs, B, ev', hl, rl, Bfp, nB, wr⟩ := (s.tr t12).lst (sl.tr t12) e
    rw [ev] at ev'
    cases ev'
    cases ek : L2.ixN xs.length j with
    | none => rw [ek] at q; exact q.elim
    | some k =>
      rw [ek] at q
      have hk := (L2.ixN_seq ek).2.1
      refine ⟨l, vs, j, k, rfl, r2.1, hl, by rw [← rl.len]; exact ek, q F2 _ σ t12.ff ?_⟩
      obtain ⟨A1, A2, A3, eB, rn⟩ := rl.set (r1.tr t2) hk
      have new : ∀ a ∈ A, E.He a = none ∧ ∀ j, a ∉ fp j := fun a ha => s.fresh sl (u a ha)
      rw [eB] at nB
      refine wr _ _ _ rn ?_ fun a ha => ?_
      · have n13 : (A1 ++ A3).Nodup := by
          have := List.nodup_append.mp nB
          have h12 := List.nodup_append.mp this.1
          exact List.nodup_append.mpr ⟨h12.1, this.2.1, fun a ha b hb => this.2.2 a (List.mem_append_left _ ha) b hb⟩
        have h13 := List.nodup_append.mp n13
        refine List.nodup_append.mpr ⟨List.nodup_append.mpr ⟨h13.1, nd, fun a ha b hb z => ?_⟩, h13.2.1, fun a ha b hb z => ?_⟩
        · subst z
          exact (new a hb).2 i (Bfp a (by rw [eB]; simp [ha]))
        · rcases List.mem_append.mp ha with ha | ha
          · exact h13.2.2 a ha b hb z
          · subst z
            exact (new a ha).2 i (Bfp a (by rw [eB]; simp [hb]))
      · rcases List.mem_append.mp ha with ha | ha
        · rcases List.mem_append.mp ha with ha | ha
          · exact .inl (by rw [eB]; simp [ha])
          · exact .inr (new a ha)
        · exact .inl (by rw [eB]; simp [ha])
  | _ => exact q.elim
/-- name.extend(e) -/
def lstD : D → Option (List D)
  | .lst _ ys => if D.pureL ys = true then some ys else none
  | _ => none
@[simp] theorem lstD_lst (o : Bool) (ys : List D) : lstD (.lst o ys) = if D.pureL ys = true then some ys else none := rfl
def sExt (i : Nat) (f : Env → R D) : Env → SR := fun ρ => onL i ρ fun xs => (f ρ).st ρ fun d => match lstD d with
  | some ys => if xs.length + ys.length ≤ 16777216 then .nx (ρ.set i (some (.lst true (xs ++ ys)))) else .no
  | none => .no
@[simp] theorem sExt_eq (i : Nat) (f : Env → R D) (ρ : Env) : sExt i f ρ = onL i ρ fun xs => (f ρ).st ρ fun d => match lstD d with
  | some ys => if xs.length + ys.length ≤ 16777216 then .nx (ρ.set i (some (.lst true (xs ++ ys)))) else .no
  | none => .no := rfl
theorem ss_ext {i : Nat} {o e : Expr} {f : Env → R D} {apos cpos pos : Pos} (ho : PE X o (tVar i)) (h : EV X E W e f) (hs : swapsWith (.Call (.Attribute o "extend" apos) [e] [] cpos) none pos.line X.env = pure false := by rfl)
    (hbase : attributeBase o "extend" X.env (eval o X.env) = eval o X.env := by rfl)
    (hfew : ((backTo cpos (starEach [e] X.env)).all (fun x => !x.1) && (backToKw cpos (keywordEach [] X.env)).all (fun x => x.1.isSome)
      && decide ([e].length + ([] : List Keyword).length + (if ([] : List Keyword).isEmpty then 0 else 1) < 30)) = true := by rfl)
    (hline : (apos.endLine == cpos.line) = true := by rfl) (hst : starEach [e] X.env = (false, eval e X.env) :: starEach [] X.env := by rfl) (hplain : (backTo cpos (starEach [] X.env)).any (·.1) = false := by rfl) :
    SS X E W (.Expr (.Call (.Attribute o "extend" apos) [e] [] cpos) pos) (sExt i f) := by
  refine ⟨ps_mono (ps_expr (pe_bm PySem.F.plainAttrs_list PySem.F.slot_list_extend PySem.F.type_list_extend mt_extend ho (pa_cons h.pe pa_nil hst) hbase hfew hline hst hplain) hs) fun Z σ H h => ?_⟩
  obtain ⟨F, ρ, s, q⟩ := h
  obtain ⟨xs, e, q⟩ := onL_of q
  obtain ⟨fp, sl⟩ := s.sl
  obtain ⟨v, ev, r⟩ := sl.rp i _ e
  refine ⟨v, ev, ty_lst s.fh r, F, ρ, s, Res.mono q.st (fun d _ q F1 H1 w A t1 r1 => ?_) fun c _ z => SRes.exc s z⟩
  cases ed : lstD d with
  | none => rw [ed] at q; exact q.elim
  | some ys =>
    rw [ed] at q
    have q : SRes E W F Z (if xs.length + ys.length ≤ 16777216 then .nx (ρ.set i (some (.lst true (xs ++ ys)))) else .no) := q
    by_cases hz : xs.length + ys.length ≤ 16777216
    · rw [if_pos hz] at q
      obtain ⟨l, vs, B, ev', hl, rl, Bfp, nB, wr⟩ := (s.tr t1).lst (sl.tr t1) e
      rw [ev] at ev'
      cases ev'
      cases d with
      | lst o zs =>
        obtain ⟨p, e2⟩ := if_some (show (if D.pureL zs = true then some zs else none) = some ys from ed)
        subst e2
        obtain ⟨b, ws, C, rfl, hb, rw1⟩ := Rp.lstW t1.fh r1
        have rw0 : RpL E.k F1 H1 zs ws [] := RpL.pure p (.refl _) rw1
        refine ⟨l, b, vs, ws, rfl, rfl, hl, hb, (by rw [sizeLine_eq, ← rl.len, ← rw0.len]; exact hz), q F1 _ σ t1.ff ?_⟩
        exact wr _ _ _ (rl.append rw0) (by rw [List.append_nil]; exact nB) fun a ha => .inl (by rw [List.append_nil] at ha; exact ha)
      | _ => cases ed
    · rw [if_neg hz] at q; exact q.elim
/-- name.clear() -/
def sClr (i : Nat) : Env → SR := fun ρ => onL i ρ fun _ => .nx (ρ.set i (some (.lst true [])))
@[simp] theorem sClr_eq (i : Nat) (ρ : Env) : sClr i ρ = onL i ρ fun _ => .nx (ρ.set i (some (.lst true []))) := rfl
theorem ss_clr {i : Nat} {o : Expr} {apos cpos pos : Pos} (ho : PE X o (tVar i)) (hs : swapsWith (.Call (.Attribute o "clear" apos) [] [] cpos) none pos.line X.env = pure false := by rfl)
    (hbase : attributeBase o "clear" X.env (eval o X.env) = eval o X.env := by rfl) (hline : (apos.endLine == cpos.line) = true := by rfl) :
    SS X E W (.Expr (.Call (.Attribute o "clear" apos) [] [] cpos) pos) (sClr i) := by
  refine ⟨ps_mono (ps_expr (pe_bm0 PySem.F.plainAttrs_list PySem.F.slot_list_clear PySem.F.type_list_clear mt_clear ho hbase hline) hs) fun Z σ H h => ?_⟩
  obtain ⟨F, ρ, s, q⟩ := h
  obtain ⟨xs, e, q⟩ := onL_of q
  obtain ⟨fp, sl⟩ := s.sl
  obtain ⟨v, ev, r⟩ := sl.rp i _ e
  obtain ⟨l, vs, B, ev', hl, rl, Bfp, nB, wr⟩ := s.lst sl e
  rw [ev] at ev'
  cases ev'
  exact ⟨_, ev, ty_lst s.fh r, l, vs, rfl, rfl, hl, q F _ σ (.refl _) (wr [] [] [] ⟨rfl, rfl⟩ .nil fun a z => nomatch z)⟩

/-! ### more to walk -/
/-- a list (true) or a tuple (false) that stands -/
def seqD : D → Option (Bool × List D)
  | .lst false xs => if D.pureL xs = true then some (true, xs) else none
  | .scr xs => if D.pureL xs = true then some (true, xs) else none
  | .tup xs => if D.pureL xs = true then some (false, xs) else none
  | _ => none
@[simp] theorem seqD_lst (xs : List D) : seqD (.lst false xs) = if D.pureL xs = true then some (true, xs) else none := rfl
@[simp] theorem seqD_tup (xs : List D) : seqD (.tup xs) = if D.pureL xs = true then some (false, xs) else none := rfl
@[simp] theorem seqD_scr (xs : List D) : seqD (.scr xs) = if D.pureL xs = true then some (true, xs) else none := rfl
def SqB (b : Bool) (K : PySem.W.Frag) (H : Hp) (a : Addr) (vs : List V) : Prop := match b with
  | true => SqL K H a vs
  | false => SqT K H a vs
theorem seq_of {F H : Hp} {d : D} {v : V} {A : List Addr} {b : Bool} {ds : List D} (r : Rp E.k F H d v A) (e : seqD d = some (b, ds)) : D.pureL ds = true ∧ ∃ a vs, v = .ref a ∧ SqB b E.k.K F a vs ∧ RpL E.k F H ds vs [] := by
  cases d with
  | lst o xs =>
    cases o with
    | false =>
      obtain ⟨z, e⟩ := if_some (show (if D.pureL xs = true then some (true, xs) else none) = some (b, ds) from e)
      cases e
      obtain ⟨a, vs, B, rfl, r, h1, h2⟩ := r
      exact ⟨z, a, vs, rfl, .inl (.inl (h1 rfl).1), RpL.pure z (.refl _) r⟩
    | true => cases e
  | tup xs =>
    obtain ⟨z, e⟩ := if_some (show (if D.pureL xs = true then some (false, xs) else none) = some (b, ds) from e)
    cases e
    obtain ⟨a, vs, rfl, s, r⟩ := r
    exact ⟨z, a, vs, rfl, s, RpL.pure z (.refl _) r⟩
  | scr xs =>
    obtain ⟨z, e⟩ := if_some (show (if D.pureL xs = true then some (true, xs) else none) = some (b, ds) from e)
    cases e
    obtain ⟨a, vs, rfl, _, s, r⟩ := r
    exact ⟨z, a, vs, rfl, s, RpL.pure z (.refl _) r⟩
  | _ => cases e
/-- pairs -/
def zipD : List D → List D → List D
  | x :: xs, y :: ys => .tup [x, y] :: zipD xs ys
  | _, _ => []
@[simp] theorem zipD_cons (x y : D) (xs ys : List D) : zipD (x :: xs) (y :: ys) = .tup [x, y] :: zipD xs ys := rfl
@[simp] theorem zipD_nil (ys : List D) : zipD [] ys = [] := by cases ys <;> rfl
@[simp] theorem zipD_nil' (xs : List D) : zipD xs [] = [] := by cases xs <;> rfl
theorem zipD_get : ∀ {xs ys : List D} {i : Nat} {d : D}, (zipD xs ys)[i]? = some d → ∃ x y, xs[i]? = some x ∧ ys[i]? = some y ∧ d = .tup [x, y]
  | x :: xs, y :: ys, 0, d, h => ⟨x, y, rfl, rfl, by simpa using h.symm⟩
  | x :: xs, y :: ys, i + 1, d, h => by simpa using zipD_get (xs := xs) (ys := ys) (i := i) (by simpa using h)
  | [], ys, i, d, h => by rw [zipD_nil] at h; simp at h
  | x :: xs, [], i, d, h => by rw [zipD_nil'] at h; simp at h
theorem zipD_len : ∀ {xs ys : List D}, (zipD xs ys).length = min xs.length ys.length
  | x :: xs, y :: ys => by rw [zipD_cons, List.length_cons, List.length_cons, List.length_cons, zipD_len]; omega
  | [], ys => by simp
  | x :: xs, [] => by simp
def ItzB (b : Bool) (K : PySem.W.Frag) (a c : Addr) : It := match b with
  | true => Itz K a c
  | false => RZ.ItzT K a c
theorem pure_tup2 {x y : D} (hx : x.pure = true) (hy : y.pure = true) : (D.tup [x, y]).pure = true := by simp [D.pure, D.pureL, hx, hy]
theorem rp_pair {k : Kx} {F H : Hp} {x y : D} {v w : V} {T : Addr} (fh : Ex F H) (hT : H T = none) (rx : Rp k F H x v []) (ry : Rp k F H y w []) : Tr F H (upd F T (.tup [v, w])) (upd H T (.tup [v, w])) ∧ Rp k (upd F T (.tup [v, w])) (upd H T (.tup [v, w])) (.tup [x, y]) (.ref T) [] := by
  have t := tr_newF (o := .tup [v, w]) fh hT
  exact ⟨t, T, [v, w], rfl, .inl (.inl upd_same), v, [w], [], [], rfl, rfl, rx.tr t, w, [], [], [], rfl, rfl, ry.tr t, rfl, rfl⟩
theorem wk_zip {k : Kx} {F H : Hp} {b : Bool} {a c : Addr} {vs ws : List V} {xs ys : List D} (sa : SqB b k.K F a vs) (sb : SqB b k.K F c ws) (px : D.pureL xs = true) (py : D.pureL ys = true) (rx : RpL k F H xs vs []) (ry : RpL k F H ys ws []) :
    Wk k (ItzB b k.K a c) F (zipD xs ys) := by
  have hx := rx.len
  have hy := ry.len
  cases b with
  | true =>
    refine ⟨fun i hi F' H' x y => ?_, fun F' H' x y => ?_, fun i d e F' H' v H'' x y h => ?_⟩
    · rw [zipD_len] at hi
      exact ⟨vs, ws, vs[i]'(by omega), ws[i]'(by omega), ex_l (x.trans y) sa, ex_l (x.trans y) sb, List.getElem?_eq_getElem _, List.getElem?_eq_getElem _⟩
    · refine ⟨vs, ws, ex_l (x.trans y) sa, ex_l (x.trans y) sb, ?_⟩
      rw [zipD_len]; omega
    · obtain ⟨T, v1, v2, rfl, hT, rfl, h1, h2⟩ := h
      obtain ⟨d1, d2, e1, e2, rfl⟩ := zipD_get e
      obtain ⟨w1, g1, r1⟩ := rx.get0 e1
      obtain ⟨w2, g2, r2⟩ := ry.get0 e2
      have := (h1 vs (ex_l (x.trans y) sa)).symm.trans g1
      cases this
      have := (h2 ws (ex_l (x.trans y) sb)).symm.trans g2
      cases this
      obtain ⟨t, r⟩ := rp_pair y hT (Rp.pure (H' := H') (pureL_get px e1) x r1) (Rp.pure (H' := H') (pureL_get py e2) x r2)
      exact ⟨pure_tup2 (pureL_get px e1) (pureL_get py e2), _, t, r⟩
  | false =>
    refine ⟨fun i hi F' H' x y => ?_, fun F' H' x y => ?_, fun i d e F' H' v H'' x y h => ?_⟩
    · rw [zipD_len] at hi
      exact ⟨vs, ws, vs[i]'(by omega), ws[i]'(by omega), ex_t (x.trans y) sa, ex_t (x.trans y) sb, List.getElem?_eq_getElem _, List.getElem?_eq_getElem _⟩
    · refine ⟨vs, ws, ex_t (x.trans y) sa, ex_t (x.trans y) sb, ?_⟩
      rw [zipD_len]; omega
    · obtain ⟨T, v1, v2, rfl, hT, rfl, h1, h2⟩ := h
      obtain ⟨d1, d2, e1, e2, rfl⟩ := zipD_get e
      obtain ⟨w1, g1, r1⟩ := rx.get0 e1
      obtain ⟨w2, g2, r2⟩ := ry.get0 e2
      have := (h1 vs (ex_t (x.trans y) sa)).symm.trans g1
      cases this
      have := (h2 ws (ex_t (x.trans y) sb)).symm.trans g2
      cases this
      obtain ⟨t, r⟩ := rp_pair y hT (Rp.pure (H' := H') (pureL_get px e1) x r1) (Rp.pure (H' := H') (pureL_get py e2) x r2)
      exact ⟨pure_tup2 (pureL_get px e1) (pureL_get py e2), _, t, r⟩
def zip2 : List D → Option (List D)
  | [x, y] => match seqD x, seqD y with
    | some (b, xs), some (c, ys) => if b = c then some (zipD xs ys) else none
    | _, _ => none
  | _ => none
@[simp] theorem zip2_eq (x y : D) : zip2 [x, y] = match seqD x, seqD y with
    | some (b, xs), some (c, ys) => if b = c then some (zipD xs ys) else none
    | _, _ => none := rfl
theorem ei_zip {e e2 : Expr} {fs : Env → R (List D)} {p pos tpos : Pos} {elts : List Expr} {kk : Nat} (hK : E.k.K = X.K) (hg : Gl X "zip") (hm : X.mg "zip" = none) (ha : EA X E W [e, e2] fs)
    (hs : starEach [e, e2] X.env = (false, eval e X.env) :: starEach [e2] X.env := by rfl) (hpl : (backTo pos (starEach [e2] X.env)).any (·.1) = false := by rfl) :
    EI X E W (.Tuple elts kk tpos) (.Call (.Name "zip" p) [e, e2] [] pos) (iA zip2 fs) := by
  refine ⟨pi_mono (RZ.pi_zipA hg hm ha.pa hs hpl) fun σ H P q => ?_⟩
  obtain ⟨F, ρ, s, q⟩ := q
  refine ⟨F, ρ, s, Res.mono q.bind (fun ds he q F1 H1 vs t1 r1 => ?_) fun c _ z F' H' t => z F' H' t⟩
  obtain ⟨es, e, p⟩ := Res.opt q
  clear he
  unfold zip2 at e
  split at e
  · rename_i x y
    split at e
    · rename_i b xs c ys ex ey
      obtain ⟨z, e⟩ := if_some e
      cases e
      cases z
      obtain ⟨v, w, A, B, rfl, rx, ry⟩ := Vw.two r1
      obtain ⟨px, a, ws, rfl, sa, q1⟩ := seq_of rx ex
      obtain ⟨py, a2, ws2, rfl, sb, q2⟩ := seq_of ry ey
      have wk := p F1 H1 _ t1 (wk_zip sa sb px py q1 q2)
      rw [← hK]
      refine ⟨a, a2, ws, ws2, rfl, ?_⟩
      cases b with
      | true => exact .inl ⟨ex_l t1.fh sa, ex_l t1.fh sb, wk⟩
      | false => exact .inr ⟨ex_t t1.fh sa, ex_t t1.fh sb, wk⟩
    · cases e
  · cases e
/-! enumerate -/
def enumD : Nat → List D → List D
  | _, [] => []
  | n, x :: xs => .tup [.int (n : Nat), x] :: enumD (n + 1) xs
@[simp] theorem enumD_nil (n : Nat) : enumD n [] = [] := rfl
@[simp] theorem enumD_cons (n : Nat) (x : D) (xs : List D) : enumD n (x :: xs) = .tup [.int (n : Nat), x] :: enumD (n + 1) xs := rfl
theorem enumD_len : ∀ {n : Nat} {xs : List D}, (enumD n xs).length = xs.length
  | _, [] => rfl
  | n, x :: xs => by rw [enumD_cons, List.length_cons, List.length_cons, enumD_len]
theorem enumD_get : ∀ {xs : List D} {n i : Nat}, (enumD n xs)[i]? = xs[i]?.map fun x => .tup [.int ((n + i : Nat) : Int), x]
  | [], n, i => by simp
  | x :: xs, n, 0 => by simp
  | x :: xs, n, i + 1 => by
    rw [enumD_cons, List.getElem?_cons_succ, enumD_get, List.getElem?_cons_succ]
    congr 1
    funext y
    rw [show n + 1 + i = n + (i + 1) by omega]
theorem wk_enum {k : Kx} {F H : Hp} {a : Addr} {vs : List V} {xs : List D} (sa : SqL k.K F a vs) (px : D.pureL xs = true) (rx : RpL k F H xs vs []) : Wk k (Ite k.K a) F (enumD 0 xs) := by
  have hx := rx.len
  refine ⟨fun i hi F' H' x y => ?_, fun F' H' x y => ?_, fun i d e F' H' v H'' x y h => ?_⟩
  · rw [enumD_len] at hi
    exact ⟨vs, vs[i]'(by omega), ex_l (x.trans y) sa, List.getElem?_eq_getElem _⟩
  · refine ⟨vs, ex_l (x.trans y) sa, ?_⟩
    rw [enumD_len]; omega
  · obtain ⟨T, v1, rfl, hT, rfl, h1⟩ := h
    rw [enumD_get] at e
    cases e1 : xs[i]? with
    | none => rw [e1] at e; cases e
    | some d1 =>
      rw [e1] at e
      cases e
      obtain ⟨w1, g1, r1⟩ := rx.get0 e1
      have := (h1 vs (ex_l (x.trans y) sa)).symm.trans g1
      cases this
      have ri : Rp k F' H' (.int ((0 + i : Nat) : Int)) (.int (i : Nat)) [] := by rw [Nat.zero_add]; exact ⟨rfl, rfl⟩
      obtain ⟨t, r⟩ := rp_pair y hT ri (Rp.pure (H' := H') (pureL_get px e1) x r1)
      exact ⟨pure_tup2 rfl (pureL_get px e1), _, t, r⟩
def enum1 : List D → Option (List D)
  | [x] => match seqD x with
    | some (true, xs) => some (enumD 0 xs)
    | _ => none
  | _ => none
@[simp] theorem enum1_eq (x : D) : enum1 [x] = match seqD x with
    | some (true, xs) => some (enumD 0 xs)
    | _ => none := rfl
theorem ei_enum {e : Expr} {fs : Env → R (List D)} {p pos tpos : Pos} {elts : List Expr} {kk : Nat} (hK : E.k.K = X.K) (hg : Gl X "enumerate") (hm : X.mg "enumerate" = none) (ha : EA X E W [e] fs) (hs : starEach [e] X.env = [(false, eval e X.env)] := by rfl) :
    EI X E W (.Tuple elts kk tpos) (.Call (.Name "enumerate" p) [e] [] pos) (iA enum1 fs) := by
  refine ⟨pi_mono (pi_enum hg hm ha.pa hs) fun σ H P q => ?_⟩
  obtain ⟨F, ρ, s, q⟩ := q
  refine ⟨F, ρ, s, Res.mono q.bind (fun ds he q F1 H1 vs t1 r1 => ?_) fun c _ z F' H' t => z F' H' t⟩
  obtain ⟨es, e, p⟩ := Res.opt q
  clear he
  unfold enum1 at e
  split at e
  · rename_i x
    split at e
    · rename_i xs ex
      cases e
      obtain ⟨v, A, rfl, rx⟩ := Vw.one r1
      obtain ⟨px, a, ws, rfl, sa, q1⟩ := seq_of rx ex
      have wk := p F1 H1 _ t1 (wk_enum sa px q1)
      rw [hK] at wk
      have sa : SqL E.k.K F1 a ws := sa
      rw [hK] at sa
      exact ⟨a, ws, rfl, ex_l t1.fh sa, wk⟩
    · cases e
  · cases e
/-! reversed -/
theorem wk_rev {k : Kx} {F H : Hp} {b : Bool} {a : Addr} {vs : List V} {xs : List D} (sa : SqB b k.K F a vs) (px : D.pureL xs = true) (rx : RpL k F H xs vs []) : Wk k (match b with | true => Itv k.K a vs.length | false => RT.ItvT k.K a vs.length) F xs.reverse := by
  have hx := rx.len
  cases b with
  | true =>
    refine ⟨fun i hi F' H' x y => ?_, fun F' H' x y => ?_, fun i d e F' H' v H'' x y h => ?_⟩
    · rw [List.length_reverse] at hi
      exact ⟨by omega, vs, vs[vs.length - 1 - i]'(by omega), ex_l (x.trans y) sa, List.getElem?_eq_getElem _⟩
    · show vs.length ≤ _
      rw [List.length_reverse]; omega
    · obtain ⟨rfl, h1⟩ := h
      have hi : i < xs.length := by
        have := (List.getElem?_eq_some_iff.mp e).1
        rw [List.length_reverse] at this; exact this
      rw [List.getElem?_reverse hi] at e
      obtain ⟨w1, g1, r1⟩ := rx.get0 e
      have := h1 vs (ex_l (x.trans y) sa)
      rw [← hx, g1] at this
      cases this
      exact ⟨pureL_get px e, F', Tr.refl y, Rp.pure (pureL_get px e) x r1⟩
  | false =>
    refine ⟨fun i hi F' H' x y => ?_, fun F' H' x y => ?_, fun i d e F' H' v H'' x y h => ?_⟩
    · rw [List.length_reverse] at hi
      exact ⟨by omega, vs, vs[vs.length - 1 - i]'(by omega), ex_t (x.trans y) sa, List.getElem?_eq_getElem _⟩
    · show vs.length ≤ _
      rw [List.length_reverse]; omega
    · obtain ⟨rfl, h1⟩ := h
      have hi : i < xs.length := by
        have := (List.getElem?_eq_some_iff.mp e).1
        rw [List.length_reverse] at this; exact this
      rw [List.getElem?_reverse hi] at e
      obtain ⟨w1, g1, r1⟩ := rx.get0 e
      have := h1 vs (ex_t (x.trans y) sa)
      rw [← hx, g1] at this
      cases this
      exact ⟨pureL_get px e, F', Tr.refl y, Rp.pure (pureL_get px e) x r1⟩
def revD (d : D) : Option (List D) := (seqD d).map fun x => x.2.reverse
@[simp] theorem revD_eq (d : D) : revD d = (seqD d).map fun x => x.2.reverse := rfl
/-- looked at; an own one is frozen for the walk -/
def iRev (f : Env → R D) : Env → R (List D) := fun ρ => (f ρ).bind fun d => R.opt (revD d)
@[simp] theorem iRev_eq (f : Env → R D) (ρ : Env) : iRev f ρ = (f ρ).bind fun d => R.opt (revD d) := rfl
def iRevO (f : Env → R D) : Env → R (List D) := fun ρ => (f ρ).bind fun d => if d.cold = true then R.opt (revD d.frz) else .no
@[simp] theorem iRevO_eq (f : Env → R D) (ρ : Env) : iRevO f ρ = (f ρ).bind fun d => if d.cold = true then R.opt (revD d.frz) else .no := rfl
theorem rev_seq {F H F1 H1 : Hp} {d : D} {v : V} {A : List Addr} {ds : List D} {P : It → Hp → Prop} (t1 : Tr F H F1 H1) (r1 : Rp E.k F1 H1 d v A) (e : revD d = some ds) (p : ∀ F' H' J, Tr F H F' H' → Wk E.k J F' ds → P J H') :
    ∃ (a : Addr) (xs : List V), v = .ref a ∧ ((SqL E.k.K H1 a xs ∧ P (Itv E.k.K a xs.length) H1) ∨ (SqT E.k.K H1 a xs ∧ P (RT.ItvT E.k.K a xs.length) H1)) := by
  cases ex : seqD d with
  | none => rw [revD_eq, ex] at e; cases e
  | some x =>
    obtain ⟨b, xs⟩ := x
    rw [revD_eq, ex] at e
    cases e
    obtain ⟨px, a, ws, rfl, sa, r1⟩ := seq_of r1 ex
    have wk := p F1 H1 _ t1 (wk_rev sa px r1)
    refine ⟨a, ws, rfl, ?_⟩
    cases b with
    | true => exact .inl ⟨ex_l t1.fh sa, wk⟩
    | false => exact .inr ⟨ex_t t1.fh sa, wk⟩
theorem ei_rev {tg e : Expr} {f : Env → R D} {p pos : Pos} (hK : E.k.K = X.K) (hg : Gl X "reversed") (hm : X.mg "reversed" = none) (h : EV X E W e f) (hs : starEach [e] X.env = (false, eval e X.env) :: starEach [] X.env := by rfl) :
    EI X E W tg (.Call (.Name "reversed" p) [e] [] pos) (iRev f) := by
  refine ⟨pi_mono (RT.pi_revA hg hm h.pe hs) fun σ H P q => ?_⟩
  obtain ⟨F, ρ, s, q⟩ := q
  refine ⟨F, ρ, s, Res.mono q.bind (fun d _ q F1 H1 v A t1 r1 => ?_) fun c _ z F' H' t => z F' H' t⟩
  obtain ⟨ds, e, p⟩ := Res.opt q
  rw [← hK]
  exact rev_seq t1 r1 e p
theorem ei_revO {tg e : Expr} {f : Env → R D} {p pos : Pos} (hK : E.k.K = X.K) (hg : Gl X "reversed") (hm : X.mg "reversed" = none) (h : EO X E W e f) (hs : starEach [e] X.env = (false, eval e X.env) :: starEach [] X.env := by rfl) :
    EI X E W tg (.Call (.Name "reversed" p) [e] [] pos) (iRevO f) := by
  refine ⟨pi_mono (RT.pi_revA hg hm h.pe hs) fun σ H P q => ?_⟩
  obtain ⟨F, ρ, s, q⟩ := q
  refine ⟨F, ρ, s, Res.mono q.bind (fun d _ q F1 H1 v A t1 r1 nd u => ?_) fun c _ z F' H' t => z F' H' t⟩
  by_cases c : d.cold = true
  · rw [if_pos c] at q
    obtain ⟨ds, e, p⟩ := Res.opt q
    rw [← hK]
    have n := fun a ha => (Rp.dom d v A r1 a ha).1
    exact rev_seq (tr_fz t1 n u) (Rp.frz (H' := H1) n d v A c (fun _ z => z) r1) e p
  · rw [if_neg c] at q
    exact q.elim
/-! range of three, reversed ranges -/
def rngC (lo c : Int) (n : Nat) : List D := (List.range n).map fun i : Nat => .int (lo + (i : Int) * c)
theorem rngC_len (lo c : Int) (n : Nat) : (rngC lo c n).length = n := by simp [rngC]
theorem wk_rngC {k : Kx} {F : Hp} {lo c : Int} {n : Nat} : Wk k (Itc lo c n) F (rngC lo c n) where
  go := fun i hi F' H' _ _ => by
    rw [rngC_len] at hi
    exact hi
  stop := fun F' H' _ _ => by
    rw [rngC_len]
    exact Nat.le_refl _
  yld := fun i d e F' H' v H'' _ y h => by
    obtain ⟨rfl, rfl⟩ := h
    have hi : i < n := by
      have := (List.getElem?_eq_some_iff.mp e).1
      rw [rngC_len] at this
      exact this
    have e' : d = .int (lo + (i : Int) * c) := by
      unfold rngC at e
      rw [List.getElem?_map, List.getElem?_range hi] at e
      exact (Option.some.inj e).symm
    subst e'
    exact ⟨rfl, F', Tr.refl y, rfl, rfl⟩
/-- what the library asks of a range of three -/
def R3Ok (i j c : Int) (n : Nat) : Prop := c ≠ 0 ∧ c.natAbs < 1073741824 ∧ Builtin.Range.small i j c = true ∧ Builtin.Range.rangeSize i j c = (n : Int)
noncomputable instance (i j c : Int) (n : Nat) : Decidable (R3Ok i j c n) := Classical.propDecidable _
/-- the number of turns -/
def cntC (i j c : Int) : Nat := (Builtin.Range.rangeSize i j c).toNat
noncomputable def rng3 : List D → Option (List D)
  | [.int i, .int j, .int c] => if R3Ok i j c (cntC i j c) then some (rngC i c (cntC i j c)) else none
  | _ => none
@[simp] theorem rng3_int (i j c : Int) : rng3 [.int i, .int j, .int c] = if R3Ok i j c (cntC i j c) then some (rngC i c (cntC i j c)) else none := rfl
theorem Vw.three {k : Kx} {F H : Hp} {vs : List V} {d e g : D} (h : Vw k F H vs [d, e, g]) : ∃ v w x A B C, vs = [v, w, x] ∧ Rp k F H d v A ∧ Rp k F H e w B ∧ Rp k F H g x C := by
  cases h with
  | cons r t =>
    obtain ⟨A, r⟩ := r
    obtain ⟨w, x, B, C, rfl, r2, r3⟩ := Vw.two t
    exact ⟨_, w, x, A, B, C, rfl, r, r2, r3⟩
theorem ei_rng3 {tg a b c : Expr} {fs : Env → R (List D)} {p pos : Pos} (hg : Gl X "range") (hm : X.mg "range" = none) (ha : EA X E W [a, b, c] fs)
    (hs : starEach [a, b, c] X.env = (false, eval a X.env) :: starEach [b, c] X.env := by rfl) (hpl : (backTo pos (starEach [b, c] X.env)).any (·.1) = false := by rfl) : EI X E W tg (.Call (.Name "range" p) [a, b, c] [] pos) (iA rng3 fs) := by
  refine ⟨pi_mono (pi_range3 hg hm ha.pa hs hpl) fun σ H P q => ?_⟩
  obtain ⟨F, ρ, s, q⟩ := q
  refine ⟨F, ρ, s, Res.mono q.bind (fun ds he q F1 H1 vs t1 r1 => ?_) fun c _ z F' H' t => z F' H' t⟩
  obtain ⟨es, e, p⟩ := Res.opt q
  clear he
  unfold rng3 at e
  split at e
  · obtain ⟨z, e⟩ := if_some e
    cases e
    obtain ⟨v, w, x, A, B, C, rfl, r, r2, r3⟩ := Vw.three r1
    rw [r.1, r2.1, r3.1]
    exact ⟨_, _, _, _, rfl, z, p F1 H1 _ t1 wk_rngC⟩
  · cases e
noncomputable def rvr1 : D → Option (List D)
  | .int n => if W62 n then some (rngC ((n.toNat : Int) - 1) (-1) n.toNat) else none
  | _ => none
@[simp] theorem rvr1_int (n : Int) : rvr1 (.int n) = if W62 n then some (rngC ((n.toNat : Int) - 1) (-1) n.toNat) else none := rfl
noncomputable def iRv1 (f : Env → R D) : Env → R (List D) := fun ρ => (f ρ).bind fun d => R.opt (rvr1 d)
@[simp] theorem iRv1_eq (f : Env → R D) (ρ : Env) : iRv1 f ρ = (f ρ).bind fun d => R.opt (rvr1 d) := rfl
theorem ei_revR1 {tg a : Expr} {f : Env → R D} {p2 pos2 p pos : Pos} (hg : Gl X "reversed") (hm : X.mg "reversed" = none) (hg2 : Gl X "range") (hm2 : X.mg "range" = none) (h : EV X E W a f) (na : starEach [a] X.env = (false, eval a X.env) :: starEach [] X.env := by rfl)
    (hs : starEach [.Call (.Name "range" p2) [a] [] pos2] X.env = (false, eval (.Call (.Name "range" p2) [a] [] pos2) X.env) :: starEach [] X.env := by rfl) :
    EI X E W tg (.Call (.Name "reversed" p) [.Call (.Name "range" p2) [a] [] pos2] [] pos) (iRv1 f) := by
  refine ⟨pi_mono (pi_revR hg hm (prg_1 hg2 hm2 h.pe na) hs) fun σ H P q => ?_⟩
  obtain ⟨F, ρ, s, q⟩ := q
  refine ⟨F, ρ, s, Res.mono q.bind (fun d _ q F1 H1 v A t1 r1 => ?_) fun c _ z F' H' t => z F' H' t⟩
  obtain ⟨ds, e, p⟩ := Res.opt q
  cases d with
  | int n =>
    obtain ⟨z, e⟩ := if_some (show (if W62 n then some (rngC ((n.toNat : Int) - 1) (-1) n.toNat) else none) = some ds from e)
    subst e
    obtain ⟨z1, z2⟩ := z
    refine ⟨n, r1.1, by omega, by omega, by omega, by omega, ?_⟩
    have e1 : (0 : Int) + (((n - 0).toNat : Nat) : Int) - 1 = (n.toNat : Int) - 1 := by rw [Int.sub_zero]; omega
    rw [e1, Int.sub_zero]
    exact p F1 H1 _ t1 wk_rngC
  | _ => cases e
end
end Dv
end
section
set_option maxRecDepth 100000
set_option maxHeartbeats 1000000
namespace Dv
open PySem PySem.Spec PyProof.Rows L2

section
variable {X : Cx} {E : En} {W : WX}
/-! ### in -/
def rInT (K : PySem.W.Frag) : R2 := fun x y H Q => ∃ d ds, Dp K H x d ∧ Dp K H y (.tuple ds) ∧ SeqAt.shaped d = true ∧ SeqAt.shaped (.tuple ds) = true ∧ Q (.bl (ds.any fun z => PyData.eqv z d)) H
def rNotInT (K : PySem.W.Frag) : R2 := fun x y H Q => ∃ d ds, Dp K H x d ∧ Dp K H y (.tuple ds) ∧ SeqAt.shaped d = true ∧ SeqAt.shaped (.tuple ds) = true ∧ Q (.bl (!ds.any fun z => PyData.eqv z d)) H
theorem op_inT (hu : X.A.units + 65 < cLine) : OpR X (compareOp .In) (rInT X.K) := by
  intro pins s σ H x y v u Q I rx ry h
  obtain ⟨d, ds, hd, he, sd, se, q⟩ := h
  obtain ⟨as, r1⟩ := Dp.reads I d x v hd rx
  obtain ⟨bs, r2⟩ := Dp.reads I (.tuple ds) y u he ry
  exact SeqAt.in_tuple_reads r2 r1 (SeqAt.canLay_of_shaped se) (SeqAt.canLay_of_shaped sd) (room_in_shaped sd hu) ⟨.bl _, H, I, rfl, q⟩
theorem op_notInT (hu : X.A.units + 65 < cLine) : OpR X (compareOp .NotIn) (rNotInT X.K) := by
  intro pins s σ H x y v u Q I rx ry h
  obtain ⟨d, ds, hd, he, sd, se, q⟩ := h
  obtain ⟨as, r1⟩ := Dp.reads I d x v hd rx
  obtain ⟨bs, r2⟩ := Dp.reads I (.tuple ds) y u he ry
  exact SeqAt.notIn_tuple_reads r2 r1 (SeqAt.canLay_of_shaped se) (SeqAt.canLay_of_shaped sd) (room_in_shaped sd hu) ⟨.bl _, H, I, rfl, q⟩
theorem D.any_eqv (d : D) : ∀ xs : List D, (D.toPL xs).any (fun z => PyData.eqv z d.toP) = xs.any fun y => y.eqv d
  | [] => rfl
  | x :: xs => by
    rw [D.toPL, List.any_cons, List.any_cons, D.any_eqv d xs]
    rfl
def txs : List D → Option (List Str)
  | [] => some []
  | .str x :: xs => (txs xs).map fun r => x :: r
  | _ :: _ => none
@[simp] theorem txs_nil : txs [] = some [] := rfl
@[simp] theorem txs_cons (x : Str) (xs : List D) : txs (.str x :: xs) = (txs xs).map fun r => x :: r := rfl
theorem txs_rp {k : Kx} {F H : Hp} : ∀ {xs : List D} {vs : List V} {A : List Addr} {ss : List Str}, RpL k F H xs vs A → txs xs = some ss → vs = ss.map V.str
  | [], vs, A, ss, h, e => by
    cases e
    rw [h.1]; rfl
  | .str x :: xs, vs, A, ss, h, e => by
    obtain ⟨v, ws, B, C, rfl, rfl, h1, h2⟩ := h
    rw [txs_cons] at e
    cases z : txs xs with
    | none => rw [z] at e; cases e
    | some r =>
      rw [z] at e
      cases e
      rw [txs_rp h2 z, h1.1]
      rfl
  | .non :: _, _, _, _, _, e => nomatch e
  | .bl _ :: _, _, _, _, _, e => nomatch e
  | .int _ :: _, _, _, _, _, e => nomatch e
  | .tup _ :: _, _, _, _, _, e => nomatch e
  | .lst _ _ :: _, _, _, _, _, e => nomatch e
  | .scr _ :: _, _, _, _, _, e => nomatch e
  | .dic _ _ _ :: _, _, _, _, _, e => nomatch e
  | .dit _ _ _ :: _, _, _, _, _, e => nomatch e
  | .ins _ _ _ :: _, _, _, _, _, e => nomatch e
theorem inV_txs (x : Str) : ∀ ss : List Str, inV (.str x) (ss.map V.str) = ss.any (· == x)
  | [] => rfl
  | s :: ss => by
    have ih := inV_txs x ss
    unfold inV at ih ⊢
    rw [List.map_cons, List.any_cons, List.any_cons, ih]
    rfl
theorem flat_txs : ∀ ss : List Str, (ss.map V.str).all flatV = true
  | [] => rfl
  | s :: ss => by rw [List.map_cons, List.all_cons, flat_txs ss]; rfl
/-- x in a list, a tuple, a text -/
def inB : D → D → Option Bool
  | .str x, .str z => if x.length = 1 then some (decide (x.cps.getD 0 0 ∈ z.cps.toList)) else none
  | x, s => match items s with
    | some xs => match x, txs xs with
      | .str x, some ss => some (ss.any (· == x))
      | _, _ => if x.lay 60 = true ∧ s.lay 60 = true then some (xs.any fun y => y.eqv x) else none
    | none => none
def gIn (x s : D) : Option D := (inB x s).map fun b => .bl b
def gNotIn (x s : D) : Option D := (inB x s).map fun b => .bl (!b)
def rInA (K : PySem.W.Frag) : R2 := fun x y H Q => (rInD K x y H Q ∨ rInT K x y H Q) ∨ (rIn K false x y H Q ∨ ∃ (c : Nat) (z : Str), x = .str ⟨#[c]⟩ ∧ y = .str z ∧ Q (.bl (decide (c ∈ z.cps.toList))) H)
def rNotInA (K : PySem.W.Frag) : R2 := fun x y H Q => (rNotInD K x y H Q ∨ rNotInT K x y H Q) ∨ (rIn K true x y H Q ∨ ∃ (c : Nat) (z : Str), x = .str ⟨#[c]⟩ ∧ y = .str z ∧ Q (.bl (!decide (c ∈ z.cps.toList))) H)
theorem op_inA (hu : X.A.units + 65 < cLine) : OpR X (compareOp .In) (rInA X.K) := ((op_inD hu).or (op_inT hu)).or (op_in_seq.or op_in_sign)
theorem op_notInA (hu : X.A.units + 65 < cLine) : OpR X (compareOp .NotIn) (rNotInA X.K) := ((op_notInD hu).or (op_notInT hu)).or (op_notIn_seq.or op_notIn_sign)
theorem one_sign {x : Str} (h : x.length = 1) : x = ⟨#[x.cps.getD 0 0]⟩ := by
  obtain ⟨a⟩ := x
  have h : a.size = 1 := h
  congr 1
  refine Array.ext h fun i h1 h2 => ?_
  have : i = 0 := by omega
  subst this
  simp [Array.getD, h]
theorem inB_says {F H : Hp} {x s : D} {v w : V} {A B : List Addr} {b : Bool} (fh : Ex F H) (rx : Rp E.k F H x v A) (ry : Rp E.k F H s w B) (e : inB x s = some b) :
    ((∃ d ds, Dp E.k.K H v d ∧ Dp E.k.K H w (.list ds) ∧ SeqAt.shaped d = true ∧ SeqAt.shaped (.list ds) = true ∧ (ds.any fun z => PyData.eqv z d) = b) ∨ (∃ d ds, Dp E.k.K H v d ∧ Dp E.k.K H w (.tuple ds) ∧ SeqAt.shaped d = true ∧ SeqAt.shaped (.tuple ds) = true ∧ (ds.any fun z => PyData.eqv z d) = b)) ∨
    ((∃ p xs, w = .ref p ∧ (SqL E.k.K H p xs ∨ SqT E.k.K H p xs) ∧ flatV v = true ∧ xs.all flatV = true ∧ inV v xs = b) ∨ ∃ (c : Nat) (z : Str), v = .str ⟨#[c]⟩ ∧ w = .str z ∧ decide (c ∈ z.cps.toList) = b) := by
  have deep : ∀ xs, items s = some xs → (if x.lay 60 = true ∧ s.lay 60 = true then some (xs.any fun y => y.eqv x) else none) = some b → ((∃ d ds, Dp E.k.K H v d ∧ Dp E.k.K H w (.list ds) ∧ SeqAt.shaped d = true ∧ SeqAt.shaped (.list ds) = true ∧ (ds.any fun z => PyData.eqv z d) = b) ∨ (∃ d ds, Dp E.k.K H v d ∧ Dp E.k.K H w (.tuple ds) ∧ SeqAt.shaped d = true ∧ SeqAt.shaped (.tuple ds) = true ∧ (ds.any fun z => PyData.eqv z d) = b)) := fun xs es e => by
    obtain ⟨z, eb⟩ := if_some e
    cases s with
    | lst o ys =>
      cases es
      refine .inl ⟨x.toP, D.toPL xs, Rp.dp fh 60 x v A z.1 rx, Rp.dp fh 60 (.lst o xs) w B z.2 ry, D.lay_shaped z.1, D.lay_shaped (d := .lst o xs) z.2, ?_⟩
      rw [D.any_eqv, eb]
    | tup ys =>
      cases es
      refine .inr ⟨x.toP, D.toPL xs, Rp.dp fh 60 x v A z.1 rx, Rp.dp fh 60 (.tup xs) w B z.2 ry, D.lay_shaped z.1, D.lay_shaped (d := .tup xs) z.2, ?_⟩
      rw [D.any_eqv, eb]
    | _ => cases es
  unfold inB at e
  split at e
  · obtain ⟨z, e⟩ := if_some e
    rw [rx.1, ry.1]
    exact .inr (.inr ⟨_, _, congrArg V.str (one_sign z), rfl, e⟩)
  · split at e
    · rename_i xs es
      split at e
      · rename_i ess _
        obtain ⟨a, vs, B', rfl, sq, r⟩ := ry.items fh es
        have := txs_rp r ess
        subst this
        rw [rx.1]
        refine .inr (.inl ⟨a, _, rfl, sq.symm, rfl, flat_txs _, ?_⟩)
        rw [inV_txs]
        exact Option.some.inj e
      · exact .inl (deep xs es e)
    · cases e
theorem says_in : Says2 E (rInA E.k.K) gIn := by
  intro F H x y v w A B Q d fh rx ry e g
  unfold gIn at e
  cases eb : inB x y with
  | none => rw [eb] at e; cases e
  | some b =>
    rw [eb] at e
    cases e
    have qb : Q (.bl b) H := g.scal fh fun _ _ => ⟨rfl, rfl⟩
    rcases inB_says fh rx ry eb with (⟨d, ds, h1, h2, h3, h4, h5⟩ | ⟨d, ds, h1, h2, h3, h4, h5⟩) | (⟨p, xs, h1, h2, h3, h4, h5⟩ | ⟨c, z, h1, h2, h3⟩)
    · exact .inl (.inl ⟨d, ds, h1, h2, h3, h4, by rw [h5]; exact qb⟩)
    · exact .inl (.inr ⟨d, ds, h1, h2, h3, h4, by rw [h5]; exact qb⟩)
    · exact .inr (.inl ⟨p, xs, h1, h2, h3, h4, by rw [if_neg Bool.false_ne_true, h5]; exact qb⟩)
    · exact .inr (.inr ⟨c, z, h1, h2, by rw [h3]; exact qb⟩)
theorem says_notIn : Says2 E (rNotInA E.k.K) gNotIn := by
  intro F H x y v w A B Q d fh rx ry e g
  unfold gNotIn at e
  cases eb : inB x y with
  | none => rw [eb] at e; cases e
  | some b =>
    rw [eb] at e
    cases e
    have qb : Q (.bl (!b)) H := g.scal fh fun _ _ => ⟨rfl, rfl⟩
    rcases inB_says fh rx ry eb with (⟨d, ds, h1, h2, h3, h4, h5⟩ | ⟨d, ds, h1, h2, h3, h4, h5⟩) | (⟨p, xs, h1, h2, h3, h4, h5⟩ | ⟨c, z, h1, h2, h3⟩)
    · exact .inl (.inl ⟨d, ds, h1, h2, h3, h4, by rw [h5]; exact qb⟩)
    · exact .inl (.inr ⟨d, ds, h1, h2, h3, h4, by rw [h5]; exact qb⟩)
    · exact .inr (.inl ⟨p, xs, h1, h2, h3, h4, by rw [if_pos rfl, h5]; exact qb⟩)
    · exact .inr (.inr ⟨c, z, h1, h2, by rw [h3]; exact qb⟩)
section
variable {a b : Expr} {fa fb : Env → R D} {pos : Pos}
theorem room65 {k : Nat} {A : Around} (r : Room k A) : A.units + 65 < cLine := by have := r.un; omega
theorem eo_in (hK : E.k.K = X.K) (hu : X.A.units + 65 < cLine) (ha : EV X E W a fa) (hb : EV X E W b fb) (hm : behindInMarks .In b = false := by rfl) : EO X E W (.Compare a [.In] [b] pos) (e2 gIn fa fb) := eo_cmp (op_inA hu) (by rw [← hK]; exact says_in) hm ha hb
theorem eo_notIn (hK : E.k.K = X.K) (hu : X.A.units + 65 < cLine) (ha : EV X E W a fa) (hb : EV X E W b fb) (hm : behindInMarks .NotIn b = false := by rfl) : EO X E W (.Compare a [.NotIn] [b] pos) (e2 gNotIn fa fb) := eo_cmp (op_notInA hu) (by rw [← hK]; exact says_notIn) hm ha hb
end
/-! ### built-ins over a list of ints -/
def dInts? : List D → Option (List Int)
  | [] => some []
  | .int x :: xs => (dInts? xs).map fun r => x :: r
  | _ :: _ => none
@[simp] theorem dIntsO_nil : dInts? [] = some [] := rfl
@[simp] theorem dIntsO_cons (x : Int) (xs : List D) : dInts? (.int x :: xs) = (dInts? xs).map fun r => x :: r := rfl
@[simp] theorem dIntsO_dInts : ∀ ns : List Int, dInts? (dInts ns) = some ns
  | [] => rfl
  | n :: ns => by
    show (dInts? (dInts ns)).map (fun r => n :: r) = _
    rw [dIntsO_dInts ns]; rfl
theorem dIntsO_some : ∀ {xs : List D} {ns : List Int}, dInts? xs = some ns → xs = dInts ns
  | [], ns, e => by cases e; rfl
  | .int x :: xs, ns, e => by
    rw [dIntsO_cons] at e
    cases z : dInts? xs with
    | none => rw [z] at e; cases e
    | some r =>
      rw [z] at e
      cases e
      rw [dIntsO_some z]; rfl
  | .non :: _, _, e => nomatch e
  | .bl _ :: _, _, e => nomatch e
  | .str _ :: _, _, e => nomatch e
  | .tup _ :: _, _, e => nomatch e
  | .lst _ _ :: _, _, e => nomatch e
  | .scr _ :: _, _, e => nomatch e
  | .dic _ _ _ :: _, _, e => nomatch e
  | .dit _ _ _ :: _, _, e => nomatch e
  | .ins _ _ _ :: _, _, e => nomatch e
theorem rp_ints {k : Kx} {F H : Hp} : ∀ {ns : List Int} {vs : List V} {A : List Addr}, RpL k F H (dInts ns) vs A → vs = ns.map V.int
  | [], vs, A, h => by rw [h.1]; rfl
  | n :: ns, vs, A, h => by
    obtain ⟨v, ws, B, C, rfl, rfl, h1, h2⟩ := h
    rw [rp_ints h2, h1.1]
    rfl
/-- a list of ints, looked at -/
def lInts : D → Option (List Int)
  | .lst _ xs => dInts? xs
  | .scr xs => dInts? xs
  | _ => none
@[simp] theorem lInts_lst (o : Bool) (xs : List D) : lInts (.lst o xs) = dInts? xs := rfl
@[simp] theorem lInts_scr (xs : List D) : lInts (.scr xs) = dInts? xs := rfl
theorem lInts_sq {F H : Hp} {d : D} {v : V} {A : List Addr} {ns : List Int} (fh : Ex F H) (r : Rp E.k F H d v A) (e : lInts d = some ns) : ∃ a, v = .ref a ∧ SqL E.k.K H a (ns.map V.int) := by
  cases d with
  | lst o xs =>
    obtain ⟨a, vs, B, rfl, s, r⟩ := Rp.lstW fh r
    have := dIntsO_some (show dInts? xs = some ns from e)
    subst this
    rw [rp_ints r] at s
    exact ⟨a, rfl, .inl (.inl s)⟩
  | scr xs =>
    obtain ⟨a, vs, rfl, _, s, r⟩ := r
    have := dIntsO_some (show dInts? xs = some ns from e)
    subst this
    rw [rp_ints r] at s
    exact ⟨a, rfl, ex_l fh s⟩
  | _ => cases e
def gSum : List D → Option D
  | [x] => (lInts x).map fun ns => .int ns.sum
  | _ => none
@[simp] theorem gSum_one (x : D) : gSum [x] = (lInts x).map fun ns => .int ns.sum := rfl
theorem says_sum : SaysC E (rSum E.k.K) gSum := by
  intro F H ds vs Q d fh r e g
  unfold gSum at e
  split at e
  · rename_i x
    cases ex : lInts x with
    | none => rw [ex] at e; cases e
    | some ns =>
      rw [ex] at e
      cases e
      obtain ⟨v, A, rfl, rr⟩ := r.one
      obtain ⟨a, rfl, s⟩ := lInts_sq fh rr ex
      exact ⟨a, ns, rfl, s, g.scal fh fun _ _ => ⟨rfl, rfl⟩⟩
  · cases e
/-- the greatest, the least -/
def maxL : List Int → Int
  | [] => 0
  | [x] => x
  | x :: xs => max x (maxL xs)
def minL : List Int → Int
  | [] => 0
  | [x] => x
  | x :: xs => min x (minL xs)
theorem maxL_cons (x y : Int) (xs : List Int) : maxL (x :: y :: xs) = max x (maxL (y :: xs)) := rfl
theorem minL_cons (x y : Int) (xs : List Int) : minL (x :: y :: xs) = min x (minL (y :: xs)) := rfl
theorem maxL_ge : ∀ (ns : List Int), ∀ y ∈ ns, y ≤ maxL ns
  | [], y, h => nomatch h
  | [x], y, h => by rw [List.mem_singleton.mp h]; exact Int.le_refl _
  | x :: z :: xs, y, h => by
    rw [maxL_cons]
    rcases List.mem_cons.mp h with rfl | h
    · exact Int.le_max_left _ _
    · exact Int.le_trans (maxL_ge (z :: xs) y h) (Int.le_max_right _ _)
theorem maxL_mem : ∀ (ns : List Int), ns ≠ [] → maxL ns ∈ ns
  | [], h => absurd rfl h
  | [x], _ => List.mem_singleton.mpr rfl
  | x :: z :: xs, _ => by
    rw [maxL_cons]
    rcases Int.le_total x (maxL (z :: xs)) with h | h
    · rw [Int.max_eq_right h]; exact List.mem_cons_of_mem _ (maxL_mem _ (by simp))
    · rw [Int.max_eq_left h]; exact List.mem_cons_self
theorem minL_le : ∀ (ns : List Int), ∀ y ∈ ns, minL ns ≤ y
  | [], y, h => nomatch h
  | [x], y, h => by rw [List.mem_singleton.mp h]; exact Int.le_refl _
  | x :: z :: xs, y, h => by
    rw [minL_cons]
    rcases List.mem_cons.mp h with rfl | h
    · exact Int.min_le_left _ _
    · exact Int.le_trans (Int.min_le_right _ _) (minL_le (z :: xs) y h)
theorem minL_mem : ∀ (ns : List Int), ns ≠ [] → minL ns ∈ ns
  | [], h => absurd rfl h
  | [x], _ => List.mem_singleton.mpr rfl
  | x :: z :: xs, _ => by
    rw [minL_cons]
    rcases Int.le_total x (minL (z :: xs)) with h | h
    · rw [Int.min_eq_left h]; exact List.mem_cons_self
    · rw [Int.min_eq_right h]; exact List.mem_cons_of_mem _ (minL_mem _ (by simp))
def gMax1 : List D → Option D
  | [x] => (lInts x).bind fun ns => if 0 < ns.length then some (.int (maxL ns)) else none
  | _ => none
def gMin1 : List D → Option D
  | [x] => (lInts x).bind fun ns => if 0 < ns.length then some (.int (minL ns)) else none
  | _ => none
@[simp] theorem gMax1_one (x : D) : gMax1 [x] = (lInts x).bind fun ns => if 0 < ns.length then some (.int (maxL ns)) else none := rfl
@[simp] theorem gMin1_one (x : D) : gMin1 [x] = (lInts x).bind fun ns => if 0 < ns.length then some (.int (minL ns)) else none := rfl
theorem says_max1 : SaysC E (rMax E.k.K) gMax1 := by
  intro F H ds vs Q d fh r e g
  unfold gMax1 at e
  split at e
  · rename_i x
    cases ex : lInts x with
    | none => rw [ex] at e; cases e
    | some ns =>
      rw [ex] at e
      obtain ⟨z, e⟩ := if_some (show (if 0 < ns.length then some (D.int (maxL ns)) else none) = some d from e)
      cases e
      obtain ⟨v, A, rfl, rr⟩ := r.one
      obtain ⟨a, rfl, s⟩ := lInts_sq fh rr ex
      refine ⟨a, ns, rfl, s, z, fun m h1 h2 => ?_⟩
      have : m = maxL ns := Int.le_antisymm (maxL_ge ns m h1) (h2 _ (maxL_mem ns (by intro q; subst q; cases h1)))
      rw [this]
      exact g.scal fh fun _ _ => ⟨rfl, rfl⟩
  · cases e
theorem says_min1 : SaysC E (rMin E.k.K) gMin1 := by
  intro F H ds vs Q d fh r e g
  unfold gMin1 at e
  split at e
  · rename_i x
    cases ex : lInts x with
    | none => rw [ex] at e; cases e
    | some ns =>
      rw [ex] at e
      obtain ⟨z, e⟩ := if_some (show (if 0 < ns.length then some (D.int (minL ns)) else none) = some d from e)
      cases e
      obtain ⟨v, A, rfl, rr⟩ := r.one
      obtain ⟨a, rfl, s⟩ := lInts_sq fh rr ex
      refine ⟨a, ns, rfl, s, z, fun m h1 h2 => ?_⟩
      have : m = minL ns := Int.le_antisymm (h2 _ (minL_mem ns (by intro q; subst q; cases h1))) (minL_le ns m h1)
      rw [this]
      exact g.scal fh fun _ _ => ⟨rfl, rfl⟩
  · cases e
/-- sorted -/
def sortI (ns : List Int) : List Int := ns.mergeSort (fun a b => decide (a ≤ b))
theorem sortI_perm (ns : List Int) : (sortI ns).Perm ns := List.mergeSort_perm _ _
theorem sortI_sorted (ns : List Int) : (sortI ns).Pairwise (· ≤ ·) := by
  have h := List.pairwise_mergeSort (le := fun a b : Int => decide (a ≤ b)) (fun a b c h1 h2 => by simp at *; omega) (fun a b => by simp; omega) ns
  exact h.imp fun h => by simpa using h
theorem sorted_unique {xs ys : List Int} (p : xs.Perm ys) (hx : xs.Pairwise (· ≤ ·)) (hy : ys.Pairwise (· ≤ ·)) : xs = ys := p.eq_of_pairwise (fun a b _ _ h1 h2 => Int.le_antisymm h1 h2) hx hy
def gSorted : List D → Option D
  | [x] => (lInts x).map fun ns => .lst true (dInts (sortI ns))
  | _ => none
@[simp] theorem gSorted_one (x : D) : gSorted [x] = (lInts x).map fun ns => .lst true (dInts (sortI ns)) := rfl
theorem says_sorted : SaysC E (rSortedI E.k.K) gSorted := by
  intro F H ds vs Q d fh r e g
  unfold gSorted at e
  split at e
  · rename_i x
    cases ex : lInts x with
    | none => rw [ex] at e; cases e
    | some ns =>
      rw [ex] at e
      cases e
      obtain ⟨v, A, rfl, rr⟩ := r.one
      obtain ⟨a, rfl, s⟩ := lInts_sq fh rr ex
      refine ⟨a, ns, rfl, s, fun ns' p h1 h2 hp => ?_⟩
      rw [sorted_unique (h1.trans (sortI_perm ns).symm) h2 (sortI_sorted ns)]
      exact GOk.lst fh g hp (rp_dInts _)
  · cases e
def gChr : List D → Option D
  | [.int i] => if 0 ≤ i ∧ i ≤ 1114111 then some (.str ⟨#[i.toNat]⟩) else none
  | _ => none
@[simp] theorem gChr_int (i : Int) : gChr [.int i] = if 0 ≤ i ∧ i ≤ 1114111 then some (.str ⟨#[i.toNat]⟩) else none := rfl
theorem says_chr : SaysC E (fun xs H Q => ∃ i, xs = [.int i] ∧ 0 ≤ i ∧ i ≤ 1114111 ∧ Q (.str ⟨#[i.toNat]⟩) H) gChr := by
  intro F H ds vs Q d fh r e g
  unfold gChr at e
  split at e
  · obtain ⟨z, e⟩ := if_some e
    cases e
    obtain ⟨v, A, rfl, rr⟩ := r.one
    rw [rr.1]
    exact ⟨_, rfl, z.1, z.2, g.scal fh fun _ _ => ⟨rfl, rfl⟩⟩
  · cases e
/-! ### methods of a text -/
def isStr : D → Bool
  | .str _ => true
  | _ => false
@[simp] theorem isStr_str (x : Str) : isStr (.str x) = true := rfl
def eM1 (g : D → D → Option D) (fo f : Env → R D) : Env → R D := fun ρ => (fo ρ).bind fun x => if isStr x = true then (f ρ).bind fun y => R.opt (g x y) else .no
@[simp] theorem eM1_eq (g : D → D → Option D) (fo f : Env → R D) (ρ : Env) : eM1 g fo f ρ = (fo ρ).bind fun x => if isStr x = true then (f ρ).bind fun y => R.opt (g x y) else .no := rfl
def eM0 (g : D → Option D) (fo : Env → R D) : Env → R D := fun ρ => (fo ρ).bind fun x => R.opt (g x)
@[simp] theorem eM0_eq (g : D → Option D) (fo : Env → R D) (ρ : Env) : eM0 g fo ρ = (fo ρ).bind fun x => R.opt (g x) := rfl
/-- g says what the method r does -/
def SaysM1 (E : En) (r : V → List V → Hp → VK → Prop) (g : D → D → Option D) : Prop := ∀ F H x y v w A B Q d, Ex F H → Rp E.k F H x v A → Rp E.k F H y w B → g x y = some d → GOk E F H Q d → r v [w] H Q
def SaysM0 (E : En) (r : V → List V → Hp → VK → Prop) (g : D → Option D) : Prop := ∀ F H x v A Q d, Ex F H → Rp E.k F H x v A → g x = some d → GOk E F H Q d → (∃ a, v = .str a) ∧ r v [] H Q
theorem eo_m1 {id : String} {name : Str} {o e : Expr} {fo f : Env → R D} {apos pos : Pos} {r : V → List V → Hp → VK → Prop} {g : D → D → Option D} (slot : Slot "str" name id) (ty : typeOf (.builtin id) = pure (.type "method_descriptor")) (rule : MtR X id r) (hg : SaysM1 E r g) (ho : EV X E W o fo) (he : EV X E W e f)
    (hs : starEach [e] X.env = [(false, eval e X.env)] := by rfl) (hbase : attributeBase o name X.env (eval o X.env) = eval o X.env := by rfl) (hline : (apos.endLine == pos.line) = true := by rfl) :
    EO X E W (.Call (.Attribute o name apos) [e] [] pos) (eM1 g fo f) := by
  refine ⟨pe_mono (pe_m1 slot ty rule ho.pe he.pe hs hbase hline) fun σ H Q h => ?_⟩
  obtain ⟨F, ρ, s, q⟩ := h
  refine ⟨F, ρ, s, Res.mono q.bind (fun x _ q F1 H1 v A t1 r1 => ?_) fun c _ z F' H' t => z F' H' t⟩
  by_cases hx : isStr x = true
  · rw [if_pos hx] at q
    refine ⟨?_, F1, ρ, s.tr t1, Res.mono q.bind (fun y _ q F2 H2 w B t2 r2 => ?_) fun c _ z F' H' t => z F' H' (t1.trans t)⟩
    · cases x with
      | str a => exact ⟨a, r1.1⟩
      | _ => cases hx
    · obtain ⟨d, e, p⟩ := Res.opt q
      exact hg F2 H2 x y v w A B Q d t2.fh (r1.tr t2) r2 e (GOk.back (E := E) (F := F) (H := H) p (t1.trans t2))
  · rw [if_neg hx] at q; exact q.elim
theorem eo_m0 {id : String} {name : Str} {o : Expr} {fo : Env → R D} {apos pos : Pos} {r : V → List V → Hp → VK → Prop} {g : D → Option D} (slot : Slot "str" name id) (ty : typeOf (.builtin id) = pure (.type "method_descriptor")) (rule : MtR X id r) (hg : SaysM0 E r g) (ho : EV X E W o fo)
    (hbase : attributeBase o name X.env (eval o X.env) = eval o X.env := by rfl) (hline : (apos.endLine == pos.line) = true := by rfl) : EO X E W (.Call (.Attribute o name apos) [] [] pos) (eM0 g fo) := by
  refine ⟨pe_mono (pe_m0 slot ty rule ho.pe hbase hline) fun σ H Q h => ?_⟩
  obtain ⟨F, ρ, s, q⟩ := h
  refine ⟨F, ρ, s, Res.mono q.bind (fun x _ q F1 H1 v A t1 r1 => ?_) fun c _ z F' H' t => z F' H' t⟩
  obtain ⟨d, e, p⟩ := Res.opt q
  exact hg F1 H1 x v A Q d t1.fh r1 e (GOk.back (E := E) (F := F) (H := H) p t1)
def gJoin : D → D → Option D
  | .str a, x => match items x with
    | some xs => match txs xs with
      | some ss => if (ss.map (·.length)).sum + ss.length * a.length ≤ 16777216 then some (.str (Txt.join a ss)) else none
      | none => none
    | none => none
  | _, _ => none
@[simp] theorem gJoin_eq (a : Str) (x : D) : gJoin (.str a) x = match items x with
    | some xs => match txs xs with
      | some ss => if (ss.map (·.length)).sum + ss.length * a.length ≤ 16777216 then some (.str (Txt.join a ss)) else none
      | none => none
    | none => none := by cases x <;> rfl
theorem says_join : SaysM1 E (fun x xs H Q => ∃ a p, ∃ ys : List Str, x = .str a ∧ xs = [.ref p] ∧ (SqL E.k.K H p (ys.map V.str) ∨ SqT E.k.K H p (ys.map V.str)) ∧
    (ys.map (·.length)).sum + ys.length * a.length ≤ 16777216 ∧ Q (.str (Txt.join a ys)) H) gJoin := by
  intro F H x y v w A B Q d fh rx ry e g
  cases x with
  | str a =>
    rw [gJoin_eq] at e
    split at e
    · rename_i xs es
      split at e
      · rename_i ss ess
        obtain ⟨z, e⟩ := if_some e
        cases e
        obtain ⟨p, vs, B', rfl, sq, r⟩ := ry.items fh es
        have := txs_rp r ess
        subst this
        exact ⟨a, p, ss, rx.1, rfl, sq.symm, z, g.scal fh fun _ _ => ⟨rfl, rfl⟩⟩
      · cases e
    · cases e
  | _ => cases e
theorem eo_join {o e : Expr} {fo f : Env → R D} {apos pos : Pos} (hK : E.k.K = X.K) (ho : EV X E W o fo) (he : EV X E W e f) (hs : starEach [e] X.env = [(false, eval e X.env)] := by rfl) (hbase : attributeBase o "join" X.env (eval o X.env) = eval o X.env := by rfl) (hline : (apos.endLine == pos.line) = true := by rfl) :
    EO X E W (.Call (.Attribute o "join" apos) [e] [] pos) (eM1 gJoin fo f) := eo_m1 PySem.F.slot_str_join PySem.F.type_str_join mt_join (by rw [← hK]; exact says_join) ho he hs hbase hline
end
end Dv
end
section
set_option maxRecDepth 100000
set_option maxHeartbeats 1000000
namespace Dv
open PySem PySem.Spec PyProof.Rows L2

/-! ### the module's tuples and lists -/
def Rv (k : Kx) (d : D) (u : Value) : Prop := ∃ v, RelV v u ∧ ∀ F H, Rp k F H d v []
def RvL (k : Kx) : List D → List Value → Prop
  | [], [] => True
  | d :: ds, u :: us => Rv k d u ∧ RvL k ds us
  | _, _ => False
theorem rv_int {k : Kx} {i : Int} {t : Tok} : Rv k (.int i) (.int i t) := ⟨.int i, ⟨_, rfl⟩, fun _ _ => ⟨rfl, rfl⟩⟩
theorem rv_str {k : Kx} {i : Str} {t : Tok} : Rv k (.str i) (.str i t) := ⟨.str i, ⟨_, rfl⟩, fun _ _ => ⟨rfl, rfl⟩⟩
theorem rv_bl {k : Kx} {b : Bool} : Rv k (.bl b) (.bool b) := ⟨.bl b, rfl, fun _ _ => ⟨rfl, rfl⟩⟩
theorem rv_non {k : Kx} : Rv k .non .none := ⟨.non, rfl, fun _ _ => ⟨rfl, rfl⟩⟩
theorem rvL_nil {k : Kx} : RvL k [] [] := trivial
theorem rvL_cons {k : Kx} {d : D} {u : Value} {ds : List D} {us : List Value} (h : Rv k d u) (t : RvL k ds us) : RvL k (d :: ds) (u :: us) := ⟨h, t⟩
theorem RvL.get {k : Kx} : ∀ {ds : List D} {us : List Value}, RvL k ds us → ∃ vs, Vals vs us ∧ ∀ F H, RpL k F H ds vs []
  | [], [], _ => ⟨[], .nil, fun _ _ => ⟨rfl, rfl⟩⟩
  | d :: ds, u :: us, ⟨⟨v, r, h⟩, t⟩ => by
    obtain ⟨vs, rs, hs⟩ := RvL.get t
    exact ⟨v :: vs, .cons r rs, fun F H => ⟨v, vs, [], [], rfl, rfl, h F H, hs F H⟩⟩
  | [], _ :: _, h => h.elim
  | _ :: _, [], h => h.elim
theorem rv_tup {k : Kx} {a : Addr} {od : Option Addr} {its : Array Value} {n : Nat} {sl : Array (Option Value)} {ds : List D} (l : k.K.lookup a = some ⟨.type "tuple", od, .seq its n, sl⟩) (hz : its.size ≤ 16777216) (h : RvL k ds its.toList) : Rv k (.tup ds) (.ref a) := by
  obtain ⟨vs, r, hs⟩ := h.get
  exact ⟨.ref a, rfl, fun F H => ⟨a, vs, rfl, .inr ⟨_, its, n, l, rfl, rfl, by rw [sizeLine_eq]; exact hz, r⟩, hs F H⟩⟩
theorem rv_lst {k : Kx} {a : Addr} {its : Array Value} {n : Nat} {sl : Array (Option Value)} {ds : List D} (l : k.K.lookup a = some ⟨.type "list", none, .seq its n, sl⟩) (hz : its.size ≤ 16777216) (h : RvL k ds its.toList) : Rv k (.scr ds) (.ref a) := by
  obtain ⟨vs, r, hs⟩ := h.get
  exact ⟨.ref a, rfl, fun F H => ⟨a, vs, rfl, rfl, .inr ⟨_, its, n, l, rfl, rfl, rfl, by rw [sizeLine_eq]; exact hz, r⟩, hs F H⟩⟩
theorem glob_rv {k : Kx} {mg : Str → Option Value} {x : Str} {d : D} {u : Value} (h : mg x = some u) (r : Rv k d u) : Glob k mg x d :=
  let ⟨v, r, h'⟩ := r
  ⟨u, v, h, r, h'⟩
/-! ### more about comprehensions, for the mathematics -/
/-- what is made of the items that stay -/
theorem lcL_of {g : D → Env → Option Env} {t : Env → R Bool} {f : Env → R D} {ρ : Env} (ty : D → Bool) (y : D → D) : ∀ (ds acc : List D), (∀ d ∈ ds, ∃ ρ1, g d ρ = some ρ1 ∧ t ρ1 = .ok (ty d) ∧ (ty d = true → f ρ1 = .ok (y d))) → acc.length + ds.length ≤ 16777216 →
    lcL g t f ρ ds acc = .ok (.lst true (acc ++ (ds.filter ty).map y))
  | [], acc, _, _ => by rw [lcL_nil]; simp
  | d :: ds, acc, h, hl => by
    obtain ⟨ρ1, e1, e2, e3⟩ := h d List.mem_cons_self
    rw [List.length_cons] at hl
    have ih := fun acc => lcL_of (g := g) (t := t) (f := f) (ρ := ρ) ty y ds acc fun d hd => h d (List.mem_cons_of_mem _ hd)
    rw [lcL_cons, e1]
    simp only [e2, R.calm_ok, R.bind_ok]
    cases q : ty d with
    | false => rw [if_neg Bool.false_ne_true, ih acc (by omega), List.filter_cons_of_neg (by rw [q]; exact Bool.false_ne_true)]
    | true =>
      rw [if_pos rfl, e3 q, R.calm_ok, R.bind_ok, if_pos (by omega), ih _ (by rw [List.length_append, List.length_singleton]; omega), List.filter_cons_of_pos q, List.map_cons, List.append_assoc]
      rfl
/-- without a test -/
theorem lcL_map {g : D → Env → Option Env} {t : Env → R Bool} {f : Env → R D} {ρ : Env} (y : D → D) (ds : List D) (h : ∀ d ∈ ds, ∃ ρ1, g d ρ = some ρ1 ∧ t ρ1 = .ok true ∧ f ρ1 = .ok (y d)) (hl : ds.length ≤ 16777216) :
    lcL g t f ρ ds [] = .ok (.lst true (ds.map y)) := by
  rw [lcL_of (fun _ => true) y ds [] (fun d hd => let ⟨ρ1, h1, h2, h3⟩ := h d hd; ⟨ρ1, h1, h2, fun _ => h3⟩) (by simpa using hl), List.nil_append, List.filter_eq_self.mpr fun _ _ => rfl]
end Dv
end
section
set_option maxRecDepth 100000
set_option maxHeartbeats 1000000
namespace Dv
open PySem PySem.Spec PyProof.Rows L2

section
variable {X : Cx} {E : En} {W : WX}
/-! ### a call without arguments -/
theorem pe_callS0 {CX : CXT} {k : Nat} {f : Addr} {fd : FuncData} {ps : List Str} {sp : Sp} {Ex : L2.St → XK} {x : Str} {p pos : Pos} (F : FnOk X.prog X.w X.K X.mg X.base CX k f fd ps sp) (hr : Room k X.A) (hg : Gl X x) (hm : X.mg x = some (.ref f)) (hk : PySem.W.keepIn X.K (.ref f) = true) (hb : Binds X.K fd ps []) (hx : ∀ σ, PassesAt CX X σ (Ex σ))
    (hdb : (x == ("__debug__" : Str)) = false := by decide) : PE X (.Call (.Name x p) [] [] pos) (fun σ H Q => sp [] H Q (Ex σ)) := by
  refine ⟨fun pins s σ H Q I h => ?_⟩
  refine wpAny_Call_Name_kw (ld_glob I hg hm ?_ hdb)
  exact PySem.W.callWith_K0 I.kIn hk (run_fnS F hr hb (hx σ) I .nil h)
theorem eo_call0 {k : Nat} {fa : Addr} {fd : FuncData} {ps : List Str} {f : List D → R D} {x : Str} {p pos : Pos} (G : FnOk X.prog X.w X.K X.mg X.base (L2.CX X.prog X.w) k fa fd ps (spD E.k E.ec 0 f)) (tk : Takes X W) (hr : Room k X.A) (hg : Gl X x) (hm : X.mg x = some (.ref fa)) (hk : PySem.W.keepIn X.K (.ref fa) = true) (hb : Binds X.K fd ps [])
    (hdb : (x == ("__debug__" : Str)) = false := by decide) : EO X E W (.Call (.Name x p) [] [] pos) (eCall 0 f aNil) := by
  refine ⟨pe_mono (pe_callS0 (Ex := WE W) G hr hg hm hk hb (fun σ => passAt tk σ) hdb) fun σ H Q h => ?_⟩
  obtain ⟨F, ρ, s, q⟩ := h
  refine call_of (E := E) (n := 0) (f := f) (ds := []) (Ew := WE W σ) (Tr.refl s.fh) .nil ?_
  exact q
/-! ### a list within a slot's list or tuple -/
theorem RpL.nth {k : Kx} {F H : Hp} : ∀ {ds : List D} {vs : List V} {A : List Addr} {i : Nat} {d : D}, RpL k F H ds vs A → ds[i]? = some d →
    ∃ v A1 B A3, vs[i]? = some v ∧ A = A1 ++ B ++ A3 ∧ Rp k F H d v B ∧ ∀ (F' H' : Hp) (d' : D) (B' : List Addr), Ex F F' → (∀ a, a ∈ A1 ∨ a ∈ A3 → ∀ o, H a = some o → F a = none → H' a = some o ∧ F' a = none) → Rp k F' H' d' v B' → RpL k F' H' (ds.set i d') vs (A1 ++ B' ++ A3)
  | [], _, _, _, _, _, e => by simp at e
  | d0 :: ds, _, _, 0, d, h, e => by
    obtain ⟨w, vs, A1, A2, rfl, rfl, h1, h2⟩ := h
    have e' : d0 = d := by simpa using e
    subst e'
    exact ⟨w, [], A1, A2, rfl, rfl, h1, fun F' H' d' B' x hp r => ⟨w, vs, B', A2, rfl, rfl, r, RpL.mono x ds vs A2 (fun a ha o e n => hp a (.inr ha) o e n) h2⟩⟩
  | d0 :: ds, _, _, i + 1, d, h, e => by
    obtain ⟨w, vs, A1, A2, rfl, rfl, h1, h2⟩ := h
    obtain ⟨v, C1, B, C3, e1, rfl, r, up⟩ := RpL.nth (i := i) h2 (by simpa using e)
    refine ⟨v, A1 ++ C1, B, C3, by simpa using e1, by simp, r, fun F' H' d' B' x hp r' => ?_⟩
    refine ⟨w, vs, A1, C1 ++ B' ++ C3, rfl, by simp, Rp.mono x d0 w A1 (fun a ha o e n => hp a (.inl (List.mem_append_left _ ha)) o e n) h1, up F' H' d' B' x (fun a ha o e n => hp a (ha.imp_left fun z => List.mem_append_right _ z) o e n) r'⟩
/-- the list at place n of slot i's list or tuple -/
def nstD (d : D) (n : Nat) : Option (List D × (List D → D)) := match d with
  | .tup xs => match xs[n]? with
    | some (.lst true ys) => some (ys, fun zs => .tup (xs.set n (.lst true zs)))
    | _ => none
  | .lst true xs => match xs[n]? with
    | some (.lst true ys) => some (ys, fun zs => .lst true (xs.set n (.lst true zs)))
    | _ => none
  | _ => none
def lenD (d : D) : Nat := match d with
  | .tup xs => xs.length
  | .lst _ xs => xs.length
  | _ => 0
theorem Stt.nst {F H : Hp} {σ : L2.St} {ρ : Env} {fp : Nat → List Addr} {i n : Nat} {d : D} {ys : List D} {up : List D → D} (s : Stt E F H σ ρ) (sl : Sl E F H σ ρ fp) (e : ρ[i]? = some (some d)) (en : nstD d n = some (ys, up)) :
    ∃ a vs l ws B, σ[i]? = some (some (.ref a)) ∧ (SqL E.k.K H a vs ∨ SqT E.k.K H a vs) ∧ vs.length = lenD d ∧ vs[n]? = some (.ref l) ∧ H l = some (.lst ws) ∧ RpL E.k F H ys ws B ∧ (∀ a ∈ B, a ∈ fp i) ∧ B.Nodup ∧
      ∀ F' H', Tr F H F' H' → ∀ ys' ws' C, RpL E.k F' H' ys' ws' C → C.Nodup → (∀ a ∈ C, a ∈ B ∨ (E.He a = none ∧ ∀ j, a ∉ fp j)) → Stt E F' (upd H' l (.lst ws')) σ (ρ.set i (some (up ys'))) := by
  obtain ⟨v, ev, r⟩ := sl.rp i _ e
  have ndi := sl.nd i
  -- the core, for what stands around
  have core : ∀ (xs : List D) (vs : List V) (A P : List Addr), fp i = P ++ A → RpL E.k F H xs vs A → xs[n]? = some (.lst true ys) →
      ∃ l ws B, vs[n]? = some (.ref l) ∧ H l = some (.lst ws) ∧ RpL E.k F H ys ws B ∧ (∀ a ∈ B, a ∈ fp i) ∧ B.Nodup ∧ l ∈ fp i ∧ l ∉ P ∧
        ∀ F' H', Tr F H F' H' → ∀ ys' ws' C, RpL E.k F' H' ys' ws' C → C.Nodup → (∀ a ∈ C, a ∈ B ∨ (E.He a = none ∧ ∀ j, a ∉ fp j)) →
          ∃ A', RpL E.k F' (upd H' l (.lst ws')) (xs.set n (.lst true ys')) vs A' ∧ (P ++ A').Nodup ∧ ∀ a ∈ P ++ A', a ∈ fp i ∨ (E.He a = none ∧ ∀ j, a ∉ fp j) := by
    intro xs vs A P eA rl ex
    obtain ⟨v, A1, B0, A3, g1, rfl, g3, g4⟩ := rl.nth ex
    obtain ⟨l, ws, B, rfl, rfl, fl, hl, rB⟩ := lstO g3
    rw [eA] at ndi
    have n1 := List.nodup_append.mp ndi
    have n2 := List.nodup_append.mp n1.2.1
    have n3 := List.nodup_append.mp n2.1
    have n4 := List.nodup_cons.mp n3.2.1
    have lfp : l ∈ fp i := by rw [eA]; simp
    have Bfp : ∀ a ∈ B, a ∈ fp i := fun a ha => by rw [eA]; simp [ha]
    refine ⟨l, ws, B, g1, hl, rB, Bfp, n4.2, lfp, fun z => n1.2.2 l z l (by simp) rfl, fun F' H' t ys' ws' C rC nC uC => ?_⟩
    have lC : l ∉ C := fun z => (uC l z).elim n4.1 fun h => h.2 i lfp
    have notC : ∀ a, a ∈ fp i → a ∉ B → a ∉ C := fun a ha hb z => (uC a z).elim hb fun h => h.2 i ha
    refine ⟨A1 ++ (l :: C) ++ A3, g4 F' (upd H' l (.lst ws')) (.lst true ys') (l :: C) t.ff (fun a ha o e n => ?_) ⟨l, ws', C, rfl, rC.upd lC, (fun z => nomatch z), fun _ => ⟨rfl, t.no l fl (by rw [hl]; exact fun z => nomatch z), upd_same⟩⟩, ?_, fun a ha => ?_⟩
    · rw [upd_ne fun z => ?_]
      · exact ⟨t.hh a o e, t.no a n (by rw [e]; exact fun z => nomatch z)⟩
      · subst z
        rcases ha with ha | ha
        · exact n3.2.2 a ha a List.mem_cons_self rfl
        · exact n2.2.2 a (by simp) a ha rfl
    · have fpm : ∀ a, a ∈ P ∨ a ∈ A1 ∨ a ∈ A3 → a ∈ fp i := fun a ha => by rw [eA]; rcases ha with h | h | h <;> simp [h]
      have nB : ∀ a, a ∈ P ∨ a ∈ A1 ∨ a ∈ A3 → a ∉ l :: B := fun a ha hb => by
        rcases ha with h | h | h
        · exact n1.2.2 a h a (by rcases List.mem_cons.mp hb with z | z <;> simp [z]) rfl
        · exact n3.2.2 a h a hb rfl
        · exact n2.2.2 a (List.mem_append_right _ hb) a h rfl
      have nlC : ∀ a, a ∈ P ∨ a ∈ A1 ∨ a ∈ A3 → a ∉ l :: C := fun a ha hb => by
        rcases List.mem_cons.mp hb with z | z
        · exact nB a ha (by rw [z]; exact List.mem_cons_self)
        · exact notC a (fpm a ha) (fun y => nB a ha (List.mem_cons_of_mem _ y)) z
      refine List.nodup_append.mpr ⟨n1.1, List.nodup_append.mpr ⟨List.nodup_append.mpr ⟨n3.1, List.nodup_cons.mpr ⟨lC, nC⟩, fun a ha b hb z => ?_⟩, n2.2.1, fun a ha b hb z => ?_⟩, fun a ha b hb z => ?_⟩
      · subst z; exact nlC a (.inr (.inl ha)) hb
      · subst z
        rcases List.mem_append.mp ha with ha | ha
        · exact n2.2.2 a (List.mem_append_left _ ha) a hb rfl
        · exact nlC a (.inr (.inr hb)) ha
      · subst z
        rcases List.mem_append.mp hb with hb | hb
        · rcases List.mem_append.mp hb with hb | hb
          · exact n1.2.2 a ha a (by simp [hb]) rfl
          · exact nlC a (.inl ha) hb
        · exact n1.2.2 a ha a (by simp [hb]) rfl
    · rcases List.mem_append.mp ha with ha | ha
      · exact .inl (by rw [eA]; simp [ha])
      · rcases List.mem_append.mp ha with ha | ha
        · rcases List.mem_append.mp ha with ha | ha
          · exact .inl (by rw [eA]; simp [ha])
          · rcases List.mem_cons.mp ha with rfl | ha
            · exact .inl lfp
            · exact (uC a ha).imp_left fun h => Bfp a h
        · exact .inl (by rw [eA]; simp [ha])
  cases d with
  | tup xs =>
    obtain ⟨a, vs, rfl, sq, rl⟩ := r
    have en : (match xs[n]? with
      | some (.lst true ys) => some (ys, fun zs => D.tup (xs.set n (.lst true zs)))
      | _ => none) = some (ys, up) := en
    split at en
    · rename_i ys0 ex
      cases en
      obtain ⟨l, ws, B, h1, h2, h3, h4, h5, h6, h7, h8⟩ := core xs vs (fp i) [] rfl rl ex
      refine ⟨a, vs, l, ws, B, ev, .inr (ex_t s.fh sq), rl.len.symm, h1, h2, h3, h4, h5, fun F' H' t ys' ws' C rC nC uC => ?_⟩
      obtain ⟨A', k1, k2, k3⟩ := h8 F' H' t ys' ws' C rC nC uC
      exact (s.tr t).write (sl.tr t) (v := .ref a) (A' := A') h6 ev ⟨a, vs, rfl, ex_t t.ff sq, k1⟩ k2 k3
    · cases en
  | lst o xs =>
    cases o with
    | false => cases en
    | true =>
      obtain ⟨a, vs, A, rfl, eA, fa, ha, rl⟩ := lstO r
      have en : (match xs[n]? with
        | some (.lst true ys) => some (ys, fun zs => D.lst true (xs.set n (.lst true zs)))
        | _ => none) = some (ys, up) := en
      split at en
      · rename_i ys0 ex
        cases en
        obtain ⟨l, ws, B, h1, h2, h3, h4, h5, h6, h7, h8⟩ := core xs vs A [a] eA rl ex
        refine ⟨a, vs, l, ws, B, ev, .inl (.inl (.inl ha)), rl.len.symm, h1, h2, h3, h4, h5, fun F' H' t ys' ws' C rC nC uC => ?_⟩
        obtain ⟨A', k1, k2, k3⟩ := h8 F' H' t ys' ws' C rC nC uC
        have na : a ≠ l := fun z => h7 (by rw [z]; exact List.mem_singleton_self _)
        exact (s.tr t).write (sl.tr t) (v := .ref a) (A' := a :: A') h6 ev ⟨a, vs, A', rfl, k1, (fun z => nomatch z), fun _ => ⟨rfl, t.no a fa (by rw [ha]; exact fun z => nomatch z), by rw [upd_ne na]; exact t.hh _ _ ha⟩⟩ k2 k3
      · cases en
  | _ => cases en
/-- slot i's element at j -/
def onN (i : Nat) (j : D) (ρ : Env) (k : List D → (List D → D) → SR) : SR := match ρ[i]?.getD none with
  | some d => match j with
    | .int j => match L2.ixN (lenD d) j with
      | some n => match nstD d n with
        | some (ys, up) => k ys up
        | none => .no
      | none => .no
    | _ => .no
  | _ => .no
theorem onN_of {F : Hp} {Z : Ends} {i : Nat} {j : D} {ρ : Env} {k : List D → (List D → D) → SR} (h : SRes E W F Z (onN i j ρ k)) : ∃ d j' n ys up, ρ[i]? = some (some d) ∧ j = .int j' ∧ L2.ixN (lenD d) j' = some n ∧ nstD d n = some (ys, up) ∧ SRes E W F Z (k ys up) := by
  unfold onN at h
  split at h
  · rename_i d e
    split at h
    · rename_i j'
      split at h
      · rename_i n en
        split at h
        · rename_i ys up eu
          exact ⟨d, j', n, ys, up, some_some e, rfl, en, eu, h⟩
        · exact h.elim
      · exact h.elim
    · exact h.elim
  · exact h.elim
theorem atI_of {vs : List V} {j : Int} {n m : Nat} {v : V} (hl : vs.length = m) (e : L2.ixN m j = some n) (h : vs[n]? = some v) : atI vs j = some v := by
  unfold atI
  rw [hl, e]
  exact h
/-- name[j].append(e) -/
def nApp (i : Nat) (fi f : Env → R D) : Env → SR := fun ρ => match ρ[i]?.getD none with
  | none => .no
  | some _ => (fi ρ).st ρ fun j => onN i j ρ fun ys up => (f ρ).st ρ fun d => if ys.length < 16777216 then .nx (ρ.set i (some (up (ys ++ [d])))) else .no
theorem nApp_eq (i : Nat) (fi f : Env → R D) (ρ : Env) : nApp i fi f ρ = match ρ[i]?.getD none with
  | none => .no
  | some _ => (fi ρ).st ρ fun j => onN i j ρ fun ys up => (f ρ).st ρ fun d => if ys.length < 16777216 then .nx (ρ.set i (some (up (ys ++ [d])))) else .no := rfl
theorem slot_of {F : Hp} {Z : Ends} {i : Nat} {ρ : Env} {k : SR} (h : SRes E W F Z (match ρ[i]?.getD none with
  | none => .no
  | some _ => k)) : ∃ d, ρ[i]? = some (some d) ∧ SRes E W F Z k := by
  split at h
  · exact h.elim
  · rename_i d e
    exact ⟨d, some_some e, h⟩
theorem ty_ref {k : Kx} {K : PySem.W.Frag} {H : Hp} {l : Addr} {ws : List V} (h : H l = some (.lst ws)) : tyV K "list" (.ref l) H := .inl ⟨rfl, ws, .inl (.inl h)⟩
theorem ss_nApp {i : Nat} {o ix e : Expr} {fi f : Env → R D} {sp apos cpos pos : Pos} (hK : E.k.K = X.K) (ho : PE X o (tVar i)) (hx : EV X E W ix fi) (h : EO X E W e f) (hpl : PlainIx ix := by exact fun _ _ => rfl) (hs : swapsWith (.Call (.Attribute (.Subscript o ix sp) "append" apos) [e] [] cpos) none pos.line X.env = pure false := by rfl)
    (hbase : attributeBase (.Subscript o ix sp) "append" X.env (eval (.Subscript o ix sp) X.env) = eval (.Subscript o ix sp) X.env := by rfl)
    (hfew : ((backTo cpos (starEach [e] X.env)).all (fun x => !x.1) && (backToKw cpos (keywordEach [] X.env)).all (fun x => x.1.isSome)
      && decide ([e].length + ([] : List Keyword).length + (if ([] : List Keyword).isEmpty then 0 else 1) < 30)) = true := by rfl)
    (hline : (apos.endLine == cpos.line) = true := by rfl) (hst : starEach [e] X.env = (false, eval e X.env) :: starEach [] X.env := by rfl) (hplain : (backTo cpos (starEach [] X.env)).any (·.1) = false := by rfl) :
    SS X E W (.Expr (.Call (.Attribute (.Subscript o ix sp) "append" apos) [e] [] cpos) pos) (nApp i fi f) := by
  refine ⟨ps_mono (ps_expr (pe_bm PySem.F.plainAttrs_list PySem.F.slot_list_append PySem.F.type_list_append mt_append (pe_ix ix_seq ho hx.pe hpl) (pa_cons h.pe pa_nil hst) hbase hfew hline hst hplain) hs) fun Z σ H h => ?_⟩
  obtain ⟨F, ρ, s, q⟩ := h
  obtain ⟨d0, e0, q⟩ := slot_of q
  obtain ⟨fp, sl⟩ := s.sl
  obtain ⟨v0, ev0, r0⟩ := sl.rp i _ e0
  refine ⟨v0, ev0, F, ρ, s, Res.mono q.st (fun j _ q F1 H1 w A t1 r1 => ?_) fun c _ z => SRes.exc s z⟩
  obtain ⟨d, j', n, ys, up, e1, rfl, en, eu, q⟩ := onN_of q
  rw [e0] at e1
  cases e1
  obtain ⟨a, vs, l, ws, B, h1, h2, h3, h4, h5, h6, h7, h8, h9⟩ := (s.tr t1).nst (sl.tr t1) e0 eu
  rw [ev0] at h1
  cases h1
  have core : tyV E.k.K "list" (.ref l) H1 ∧ tCons (tO E W f) tNil σ H1 fun xs H2 => rAppend (.ref l) xs H2 fun _ H3 => Z.nx σ H3 := by
    refine ⟨ty_ref (k := E.k) h5, F1, ρ, s.tr t1, Res.mono q.st (fun y _ q F2 H2 u C t2 r2 nd un => ?_) fun c _ z F' H' t => SRes.exc s z F' H' (t1.trans t)⟩
    by_cases hz : ys.length < 16777216
    · rw [if_pos hz] at q
      have t12 := t1.trans t2
      have new : ∀ a ∈ C, E.He a = none ∧ ∀ j, a ∉ fp j := fun a ha => (s.tr t1).fresh (sl.tr t1) (un a ha)
      have rl := h6.tr t2
      refine ⟨l, ws, u, rfl, rfl, t2.hh _ _ h5, Nat.lt_of_lt_of_eq (by rw [← rl.len]; exact hz) sizeLine_eq.symm, q F2 _ σ t12.ff (h9 F2 H2 t2 (ys ++ [y]) (ws ++ [u]) (B ++ C) (rl.append (RpL.one r2)) ?_ fun a ha => ?_)⟩
      · refine List.nodup_append.mpr ⟨h8, nd, fun a ha b hb z => ?_⟩
        subst z
        exact (new a hb).2 i (h7 a ha)
      · rcases List.mem_append.mp ha with ha | ha
        · exact .inl ha
        · exact .inr (new a ha)
    · rw [if_neg hz] at q
      exact q.elim
  rw [← hK]
  rcases h2 with h2 | h2
  · exact .inl ⟨a, vs, j', _, rfl, r1.1, h2, atI_of h3 en h4, core⟩
  · exact .inr (.inl ⟨a, vs, j', _, rfl, r1.1, h2, atI_of h3 en h4, core⟩)
/-- name[j].extend(e) -/
def nExt (i : Nat) (fi f : Env → R D) : Env → SR := fun ρ => match ρ[i]?.getD none with
  | none => .no
  | some _ => (fi ρ).st ρ fun j => onN i j ρ fun ys up => (f ρ).st ρ fun d => match lstD d with
    | some zs => if ys.length + zs.length ≤ 16777216 then .nx (ρ.set i (some (up (ys ++ zs)))) else .no
    | none => .no
theorem nExt_eq (i : Nat) (fi f : Env → R D) (ρ : Env) : nExt i fi f ρ = match ρ[i]?.getD none with
  | none => .no
  | some _ => (fi ρ).st ρ fun j => onN i j ρ fun ys up => (f ρ).st ρ fun d => match lstD d with
    | some zs => if ys.length + zs.length ≤ 16777216 then .nx (ρ.set i (some (up (ys ++ zs)))) else .no
    | none => .no := rfl
theorem ss_nExt {i : Nat} {o ix e : Expr} {fi f : Env → R D} {sp apos cpos pos : Pos} (hK : E.k.K = X.K) (ho : PE X o (tVar i)) (hx : EV X E W ix fi) (h : EV X E W e f) (hpl : PlainIx ix := by exact fun _ _ => rfl) (hs : swapsWith (.Call (.Attribute (.Subscript o ix sp) "extend" apos) [e] [] cpos) none pos.line X.env = pure false := by rfl)
    (hbase : attributeBase (.Subscript o ix sp) "extend" X.env (eval (.Subscript o ix sp) X.env) = eval (.Subscript o ix sp) X.env := by rfl)
    (hfew : ((backTo cpos (starEach [e] X.env)).all (fun x => !x.1) && (backToKw cpos (keywordEach [] X.env)).all (fun x => x.1.isSome)
      && decide ([e].length + ([] : List Keyword).length + (if ([] : List Keyword).isEmpty then 0 else 1) < 30)) = true := by rfl)
    (hline : (apos.endLine == cpos.line) = true := by rfl) (hst : starEach [e] X.env = (false, eval e X.env) :: starEach [] X.env := by rfl) (hplain : (backTo cpos (starEach [] X.env)).any (·.1) = false := by rfl) :
    SS X E W (.Expr (.Call (.Attribute (.Subscript o ix sp) "extend" apos) [e] [] cpos) pos) (nExt i fi f) := by
  refine ⟨ps_mono (ps_expr (pe_bm PySem.F.plainAttrs_list PySem.F.slot_list_extend PySem.F.type_list_extend mt_extend (pe_ix ix_seq ho hx.pe hpl) (pa_cons h.pe pa_nil hst) hbase hfew hline hst hplain) hs) fun Z σ H h => ?_⟩
  obtain ⟨F, ρ, s, q⟩ := h
  obtain ⟨d0, e0, q⟩ := slot_of q
  obtain ⟨fp, sl⟩ := s.sl
  obtain ⟨v0, ev0, r0⟩ := sl.rp i _ e0
  refine ⟨v0, ev0, F, ρ, s, Res.mono q.st (fun j _ q F1 H1 w A t1 r1 => ?_) fun c _ z => SRes.exc s z⟩
  obtain ⟨d, j', n, ys, up, e1, rfl, en, eu, q⟩ := onN_of q
  rw [e0] at e1
  cases e1
  obtain ⟨a, vs, l, ws, B, h1, h2, h3, h4, h5, h6, h7, h8, h9⟩ := (s.tr t1).nst (sl.tr t1) e0 eu
  rw [ev0] at h1
  cases h1
  have core : tyV E.k.K "list" (.ref l) H1 ∧ tCons (tV E W f) tNil σ H1 fun xs H2 => rExtend (.ref l) xs H2 fun _ H3 => Z.nx σ H3 := by
    refine ⟨ty_ref (k := E.k) h5, F1, ρ, s.tr t1, Res.mono q.st (fun y _ q F2 H2 u C t2 r2 => ?_) fun c _ z F' H' t => SRes.exc s z F' H' (t1.trans t)⟩
    cases ed : lstD y with
    | none => rw [ed] at q; exact q.elim
    | some zs =>
      rw [ed] at q
      have q : SRes E W F Z (if ys.length + zs.length ≤ 16777216 then .nx (ρ.set i (some (up (ys ++ zs)))) else .no) := q
      by_cases hz : ys.length + zs.length ≤ 16777216
      · rw [if_pos hz] at q
        cases y with
        | lst o zs' =>
          obtain ⟨p, e2⟩ := if_some (show (if D.pureL zs' = true then some zs' else none) = some zs from ed)
          subst e2
          obtain ⟨b, us, C, rfl, hb, rw1⟩ := Rp.lstW t2.fh r2
          have rw0 : RpL E.k F2 H2 zs' us [] := RpL.pure p (.refl _) rw1
          have t12 := t1.trans t2
          have rl := h6.tr t2
          refine ⟨l, b, ws, us, rfl, rfl, t2.hh _ _ h5, hb, (by rw [sizeLine_eq, ← rl.len, ← rw0.len]; exact hz), q F2 _ σ t12.ff (h9 F2 H2 t2 (ys ++ zs') (ws ++ us) (B ++ []) (rl.append rw0) (by rw [List.append_nil]; exact h8) fun a ha => .inl (by rw [List.append_nil] at ha; exact ha))⟩
        | _ => cases ed
      · rw [if_neg hz] at q
        exact q.elim
  rw [← hK]
  rcases h2 with h2 | h2
  · exact .inl ⟨a, vs, j', _, rfl, r1.1, h2, atI_of h3 en h4, core⟩
  · exact .inr (.inl ⟨a, vs, j', _, rfl, r1.1, h2, atI_of h3 en h4, core⟩)
/-- name[j][k] = e -/
def nSet (i : Nat) (fi fk f : Env → R D) : Env → SR := fun ρ => (f ρ).st ρ fun d => match ρ[i]?.getD none with
  | none => .no
  | some _ => (fi ρ).st ρ fun j => onN i j ρ fun ys up => (fk ρ).st ρ fun x => match x with
    | .int x => match L2.ixN ys.length x with
      | some m => .nx (ρ.set i (some (up (ys.set m d))))
      | none => .no
    | _ => .no
theorem nSet_eq (i : Nat) (fi fk f : Env → R D) (ρ : Env) : nSet i fi fk f ρ = (f ρ).st ρ fun d => match ρ[i]?.getD none with
  | none => .no
  | some _ => (fi ρ).st ρ fun j => onN i j ρ fun ys up => (fk ρ).st ρ fun x => match x with
    | .int x => match L2.ixN ys.length x with
      | some m => .nx (ρ.set i (some (up (ys.set m d))))
      | none => .no
    | _ => .no := rfl
theorem ss_nSet {i : Nat} {o ix kx e : Expr} {fi fk f : Env → R D} {sp0 sp pos : Pos} (hK : E.k.K = X.K) (ho : PE X o (tVar i)) (hx : EV X E W ix fi) (hk : EV X E W kx fk) (h : EO X E W e f) (hpl : PlainIx ix := by exact fun _ _ => rfl)
    (ha : ∀ v, assign (.Subscript (.Subscript o ix sp0) kx sp) X.env v = (do
      let ov ← holding [v] (eval (.Subscript o ix sp0) X.env)
      let iv ← holding [v, ov] (eval kx X.env)
      standAt sp
      holding [v, ov, iv] (setItem ov iv v)
      release [v, ov, iv] []) := by intro _; rfl)
    (hs : swapsWithSole [.Subscript (.Subscript o ix sp0) kx sp] e pos.line X.env = pure false := by rfl) (hw : swappedStores [.Subscript (.Subscript o ix sp0) kx sp] e X.env = pure none := by rfl)
    (h1 : (assignEach [.Subscript (.Subscript o ix sp0) kx sp] X.env).map (·.2) = [assign (.Subscript (.Subscript o ix sp0) kx sp) X.env] := by rfl) :
    SS X E W (.Assign [.Subscript (.Subscript o ix sp0) kx sp] e pos) (nSet i fi fk f) := by
  refine ⟨ps_mono (ps_asg h.pe (pg_sub (pe_ix ix_seq ho hx.pe hpl) hk.pe set_list ha) hs hw h1) fun Z σ H h => ?_⟩
  obtain ⟨F, ρ, s, q⟩ := h
  refine ⟨F, ρ, s, Res.mono q.st (fun d _ q F0 H0 dv DA t0 r0 nd u => ?_) fun c _ z => SRes.exc s z⟩
  obtain ⟨d0, e0, q⟩ := slot_of q
  obtain ⟨fp, sl⟩ := s.sl
  obtain ⟨v0, ev0, _⟩ := sl.rp i _ e0
  refine ⟨v0, ev0, F0, ρ, s.tr t0, Res.mono q.st (fun j _ q F1 H1 w A t1 r1 => ?_) fun c _ z F' H' t => SRes.exc s z F' H' (t0.trans t)⟩
  obtain ⟨d1, j', n, ys, up, e1, rfl, en, eu, q⟩ := onN_of q
  rw [e0] at e1
  cases e1
  have t01 := t0.trans t1
  obtain ⟨a, vs, l, ws, B, h1, h2, h3, h4, h5, h6, h7, h8, h9⟩ := (s.tr t01).nst (sl.tr t01) e0 eu
  rw [ev0] at h1
  cases h1
  have core : tV E W fk σ H1 fun x H2 => rSetL (.ref l) x dv H2 fun H3 => Z.nx σ H3 := by
    refine ⟨F1, ρ, s.tr t01, Res.mono q.st (fun x _ q F2 H2 xv C t2 r2 => ?_) fun c _ z F' H' t => SRes.exc s z F' H' (t01.trans t)⟩
    cases x with
    | int x =>
      have q : SRes E W F Z (match L2.ixN ys.length x with
        | some m => .nx (ρ.set i (some (up (ys.set m d))))
        | none => .no) := q
      cases em : L2.ixN ys.length x with
      | none => rw [em] at q; exact q.elim
      | some m =>
        rw [em] at q
        have hm := (L2.ixN_seq em).2.1
        have t12 := t01.trans t2
        have rl := h6.tr t2
        obtain ⟨A1, A2, A3, eB, rn⟩ := rl.set (r0.tr (t1.trans t2)) hm
        have new : ∀ a ∈ DA, E.He a = none ∧ ∀ j, a ∉ fp j := fun a ha => s.fresh sl (u a ha)
        refine ⟨l, ws, x, m, rfl, r2.1, t2.hh _ _ h5, by rw [← rl.len]; exact em, q F2 _ σ t12.ff (h9 F2 H2 t2 _ _ _ rn ?_ fun a ha => ?_)⟩
        · rw [eB] at h8
          have n13 : (A1 ++ A3).Nodup := by
            have := List.nodup_append.mp h8
            have h12 := List.nodup_append.mp this.1
            exact List.nodup_append.mpr ⟨h12.1, this.2.1, fun a ha b hb => this.2.2 a (List.mem_append_left _ ha) b hb⟩
          have h13 := List.nodup_append.mp n13
          refine List.nodup_append.mpr ⟨List.nodup_append.mpr ⟨h13.1, nd, fun a ha b hb z => ?_⟩, h13.2.1, fun a ha b hb z => ?_⟩
          · subst z
            exact (new a hb).2 i (h7 a (by rw [eB]; simp [ha]))
          · rcases List.mem_append.mp ha with ha | ha
            · exact h13.2.2 a ha b hb z
            · subst z
              exact (new a ha).2 i (h7 a (by rw [eB]; simp [hb]))
        · rcases List.mem_append.mp ha with ha | ha
          · rcases List.mem_append.mp ha with ha | ha
            · exact .inl (by rw [eB]; simp [ha])
            · exact .inr (new a ha)
          · exact .inl (by rw [eB]; simp [ha])
    | _ => exact q.elim
  rw [← hK]
  rcases h2 with h2 | h2
  · exact .inl ⟨a, vs, j', _, rfl, r1.1, h2, atI_of h3 en h4, core⟩
  · exact .inr (.inl ⟨a, vs, j', _, rfl, r1.1, h2, atI_of h3 en h4, core⟩)
end
end Dv
end
section
set_option maxRecDepth 100000
set_option maxHeartbeats 1000000
namespace Dv
open PySem PySem.Spec PyProof.Rows L2

section
variable {X : Cx} {E : En} {W : WX}
theorem gIn_isbl (x y d : D) (e : gIn x y = some d) : ∃ b, d = .bl b := by
  unfold gIn at e
  cases z : inB x y with
  | none => rw [z] at e; cases e
  | some b => rw [z] at e; cases e; exact ⟨_, rfl⟩
theorem gNotIn_isbl (x y d : D) (e : gNotIn x y = some d) : ∃ b, d = .bl b := by
  unfold gNotIn at e
  cases z : inB x y with
  | none => rw [z] at e; cases e
  | some b => rw [z] at e; cases e; exact ⟨_, rfl⟩
section
variable {a b : Expr} {fa fb : Env → R D} {pos : Pos}
theorem et_in (hK : E.k.K = X.K) (hu : X.A.units + 65 < cLine) (ha : EV X E W a fa) (hb : EV X E W b fb) (hm : behindInMarks .In b = false := by rfl) : ET X E W (.Compare a [.In] [b] pos) (eT (e2 gIn fa fb)) := et_cmp (op_inA hu) (by rw [← hK]; exact says_in) gIn_isbl hm ha hb
theorem et_notIn (hK : E.k.K = X.K) (hu : X.A.units + 65 < cLine) (ha : EV X E W a fa) (hb : EV X E W b fb) (hm : behindInMarks .NotIn b = false := by rfl) : ET X E W (.Compare a [.NotIn] [b] pos) (eT (e2 gNotIn fa fb)) := et_cmp (op_notInA hu) (by rw [← hK]; exact says_notIn) gNotIn_isbl hm ha hb
end
/-! ### any, all of a list of bools -/
def dBls (bs : List Bool) : List D := bs.map .bl
def lBls : List D → Option (List Bool)
  | [] => some []
  | .bl x :: xs => (lBls xs).map fun r => x :: r
  | _ :: _ => none
@[simp] theorem lBls_nil : lBls [] = some [] := rfl
@[simp] theorem lBls_cons (x : Bool) (xs : List D) : lBls (.bl x :: xs) = (lBls xs).map fun r => x :: r := rfl
theorem lBls_some : ∀ {xs : List D} {bs : List Bool}, lBls xs = some bs → xs = dBls bs
  | [], ns, e => by cases e; rfl
  | .bl x :: xs, ns, e => by
    rw [lBls_cons] at e
    cases z : lBls xs with
    | none => rw [z] at e; cases e
    | some r =>
      rw [z] at e
      cases e
      rw [lBls_some z]; rfl
  | .non :: _, _, e => nomatch e
  | .int _ :: _, _, e => nomatch e
  | .str _ :: _, _, e => nomatch e
  | .tup _ :: _, _, e => nomatch e
  | .lst _ _ :: _, _, e => nomatch e
  | .scr _ :: _, _, e => nomatch e
  | .dic _ _ _ :: _, _, e => nomatch e
  | .dit _ _ _ :: _, _, e => nomatch e
  | .ins _ _ _ :: _, _, e => nomatch e
theorem lBls_map {α : Type} (f : α → Bool) : ∀ xs : List α, lBls (xs.map fun x => .bl (f x)) = some (xs.map f)
  | [] => rfl
  | x :: xs => by rw [List.map_cons, lBls_cons, lBls_map f xs]; rfl
theorem rp_bls {k : Kx} {F H : Hp} : ∀ {bs : List Bool} {vs : List V} {A : List Addr}, RpL k F H (dBls bs) vs A → vs = bs.map V.bl
  | [], vs, A, h => by rw [h.1]; rfl
  | n :: ns, vs, A, h => by
    obtain ⟨v, ws, B, C, rfl, rfl, h1, h2⟩ := h
    rw [rp_bls h2, h1.1]
    rfl
def blsD : D → Option (List Bool)
  | .lst _ xs => lBls xs
  | _ => none
@[simp] theorem blsD_lst (o : Bool) (xs : List D) : blsD (.lst o xs) = lBls xs := rfl
def gAny : List D → Option D
  | [x] => (blsD x).map fun bs => .bl (bs.any id)
  | _ => none
def gAll : List D → Option D
  | [x] => (blsD x).map fun bs => .bl (bs.all id)
  | _ => none
@[simp] theorem gAny_one (x : D) : gAny [x] = (blsD x).map fun bs => .bl (bs.any id) := rfl
@[simp] theorem gAll_one (x : D) : gAll [x] = (blsD x).map fun bs => .bl (bs.all id) := rfl
theorem bls_sq {F H : Hp} {d : D} {v : V} {A : List Addr} {bs : List Bool} (fh : Ex F H) (r : Rp E.k F H d v A) (e : blsD d = some bs) : ∃ a, v = .ref a ∧ SqL E.k.K H a (bs.map V.bl) := by
  cases d with
  | lst o xs =>
    obtain ⟨a, vs, B, rfl, s, r⟩ := Rp.lstW fh r
    have := lBls_some (show lBls xs = some bs from e)
    subst this
    rw [rp_bls r] at s
    exact ⟨a, rfl, .inl (.inl s)⟩
  | _ => cases e
theorem says_any : SaysC E (rAny E.k.K) gAny := by
  intro F H ds vs Q d fh r e g
  unfold gAny at e
  split at e
  · rename_i x
    cases ex : blsD x with
    | none => rw [ex] at e; cases e
    | some ns =>
      rw [ex] at e
      cases e
      obtain ⟨v, A, rfl, rr⟩ := r.one
      obtain ⟨a, rfl, s⟩ := bls_sq fh rr ex
      exact ⟨a, ns, rfl, s, g.scal fh fun _ _ => ⟨rfl, rfl⟩⟩
  · cases e
theorem says_all : SaysC E (rAll E.k.K) gAll := by
  intro F H ds vs Q d fh r e g
  unfold gAll at e
  split at e
  · rename_i x
    cases ex : blsD x with
    | none => rw [ex] at e; cases e
    | some ns =>
      rw [ex] at e
      cases e
      obtain ⟨v, A, rfl, rr⟩ := r.one
      obtain ⟨a, rfl, s⟩ := bls_sq fh rr ex
      exact ⟨a, ns, rfl, s, g.scal fh fun _ _ => ⟨rfl, rfl⟩⟩
  · cases e
def gStr : List D → Option D
  | [.int i] => if i.natAbs.log2 < 1920 then some (.str (toString i)) else none
  | _ => none
@[simp] theorem gStr_int (i : Int) : gStr [.int i] = if i.natAbs.log2 < 1920 then some (.str (toString i)) else none := rfl
theorem says_str : SaysC E (fun xs H Q => ∃ i, xs = [.int i] ∧ i.natAbs.log2 < 1920 ∧ Q (.str (toString i)) H) gStr := by
  intro F H ds vs Q d fh r e g
  unfold gStr at e
  split at e
  · obtain ⟨z, e⟩ := if_some e
    cases e
    obtain ⟨v, A, rfl, rr⟩ := r.one
    rw [rr.1]
    exact ⟨_, rfl, z, g.scal fh fun _ _ => ⟨rfl, rfl⟩⟩
  · cases e
end
end Dv
end
section
set_option maxRecDepth 100000
set_option maxHeartbeats 1000000
namespace Dv
open PySem PySem.Spec PyProof.Rows L2

/-! ### displays that own their items; names may be moved into them -/
def mNil : Env → R (List D) := fun _ => .ok []
def mV (f : Env → R D) (g : Env → R (List D)) : Env → R (List D) := fun ρ => (f ρ).bind fun x => if x.pure = true then (g ρ).bind fun xs => .ok (x :: xs) else .no
def mO (f : Env → R D) (g : Env → R (List D)) : Env → R (List D) := fun ρ => (f ρ).bind fun x => (g ρ).bind fun xs => .ok (x :: xs)
def mM (i : Nat) (g : Env → R (List D)) : Env → R (List D) := fun ρ => match ρ[i]?.getD none with
  | some d => (g ρ).bind fun xs => .ok (d :: xs)
  | none => .no
@[simp] theorem mNil_eq (ρ : Env) : mNil ρ = .ok [] := rfl
@[simp] theorem mV_eq (f : Env → R D) (g : Env → R (List D)) (ρ : Env) : mV f g ρ = (f ρ).bind fun x => if x.pure = true then (g ρ).bind fun xs => .ok (x :: xs) else .no := rfl
@[simp] theorem mO_eq (f : Env → R D) (g : Env → R (List D)) (ρ : Env) : mO f g ρ = (f ρ).bind fun x => (g ρ).bind fun xs => .ok (x :: xs) := rfl
@[simp] theorem mM_eq (i : Nat) (g : Env → R (List D)) (ρ : Env) : mM i g ρ = match ρ[i]?.getD none with
  | some d => (g ρ).bind fun xs => .ok (d :: xs)
  | none => .no := rfl
def tM (E : En) (W : WX) (f : Env → R (List D)) (mv : List Nat) : TA := fun σ H Q => ∃ F ρ fp, Stt E F H σ ρ ∧ Sl E F H σ ρ fp ∧
  Res (f ρ) (fun ds => ∀ F' H' vs A, Tr F H F' H' → RpL E.k F' H' ds vs A → A.Nodup → (∀ a ∈ A, H a = none ∨ ∃ i ∈ mv, a ∈ fp i) → Q vs H') (fun c => ∀ F' H', Tr F H F' H' → W (E.ec c) none σ H')
structure EM (X : Cx) (E : En) (W : WX) (es : List Expr) (f : Env → R (List D)) (mv : List Nat) : Prop where
  pa : PA X es (tM E W f mv)
section
variable {X : Cx} {E : En} {W : WX}
theorem em_nil : EM X E W [] mNil [] := ⟨pa_mono pa_nil fun σ H Q ⟨F, ρ, fp, s, sl, q⟩ => q F H [] [] (Tr.refl s.fh) ⟨rfl, rfl⟩ .nil fun _ z => nomatch z⟩
/-- what stands at the head is new, or a slot's -/
theorem em_step {F H F1 H1 : Hp} {σ : L2.St} {ρ : Env} {fp : Nat → List Addr} {g : Env → R (List D)} {mv hv : List Nat} {d : D} {v : V} {A : List Addr} {Q : List V → Hp → Prop} (s : Stt E F H σ ρ) (sl : Sl E F H σ ρ fp) (t1 : Tr F H F1 H1) (r1 : Rp E.k F1 H1 d v A) (nd : A.Nodup)
    (u : ∀ a ∈ A, H a = none ∨ ∃ i ∈ hv, a ∈ fp i) (dis : ∀ i ∈ hv, i ∉ mv)
    (q : Res ((g ρ).bind fun xs => R.ok (d :: xs)) (fun ds => ∀ F' H' vs A, Tr F H F' H' → RpL E.k F' H' ds vs A → A.Nodup → (∀ a ∈ A, H a = none ∨ ∃ i ∈ hv ++ mv, a ∈ fp i) → Q vs H') (fun c => ∀ F' H', Tr F H F' H' → W (E.ec c) none σ H')) :
    tM E W g mv σ H1 fun xs H2 => Q (v :: xs) H2 := by
  refine ⟨F1, ρ, fp, s.tr t1, sl.tr t1, Res.mono q.bind (fun xs _ q F2 H2 vs B t2 r2 nd2 u2 => ?_) fun c _ z F' H' t => z F' H' (t1.trans t)⟩
  have q : ∀ F' H' vs A, Tr F H F' H' → RpL E.k F' H' (d :: xs) vs A → A.Nodup → (∀ a ∈ A, H a = none ∨ ∃ i ∈ hv ++ mv, a ∈ fp i) → Q vs H' := q
  refine q F2 H2 (v :: vs) (A ++ B) (t1.trans t2) ⟨v, vs, A, B, rfl, rfl, r1.tr t2, r2⟩ (List.nodup_append.mpr ⟨nd, nd2, fun a ha b hb z => ?_⟩) fun a ha => ?_
  · subst z
    obtain ⟨_, o, h1, _⟩ := Rp.dom d v A r1 a ha
    rcases u2 a hb with h | ⟨j, hj, h⟩
    · rw [h] at h1; cases h1
    · rcases u a ha with h0 | ⟨i, hi, h0⟩
      · exact (sl.there h).2 h0
      · have := sl.dj i j a h0 h
        subst this
        exact dis i hi hj
  · rcases List.mem_append.mp ha with ha | ha
    · exact (u a ha).imp_right fun ⟨i, hi, h⟩ => ⟨i, List.mem_append_left _ hi, h⟩
    · rcases u2 a ha with h | ⟨j, hj, h⟩
      · exact .inl (none_back t1.hh h)
      · exact .inr ⟨j, List.mem_append_right _ hj, h⟩
theorem em_o {e : Expr} {es : List Expr} {f : Env → R D} {g : Env → R (List D)} {mv : List Nat} (h : EO X E W e f) (hr : EM X E W es g mv) (hs : starEach (e :: es) X.env = (false, eval e X.env) :: starEach es X.env := by rfl) : EM X E W (e :: es) (mO f g) mv := by
  refine ⟨pa_mono (pa_cons h.pe hr.pa hs) fun σ H Q ⟨F, ρ, fp, s, sl, q⟩ => ?_⟩
  refine ⟨F, ρ, s, Res.mono q.bind (fun d _ q F1 H1 v A t1 r1 nd u => ?_) fun c _ z F' H' t => z F' H' t⟩
  exact em_step (hv := []) s sl t1 r1 nd (fun a ha => .inl (u a ha)) (fun i z => nomatch z) q
theorem em_v {e : Expr} {es : List Expr} {f : Env → R D} {g : Env → R (List D)} {mv : List Nat} (h : EV X E W e f) (hr : EM X E W es g mv) (hs : starEach (e :: es) X.env = (false, eval e X.env) :: starEach es X.env := by rfl) : EM X E W (e :: es) (mV f g) mv := by
  refine ⟨pa_mono (pa_cons h.pe hr.pa hs) fun σ H Q ⟨F, ρ, fp, s, sl, q⟩ => ?_⟩
  refine ⟨F, ρ, s, Res.mono q.bind (fun d _ q F1 H1 v A t1 r1 => ?_) fun c _ z F' H' t => z F' H' t⟩
  by_cases p : d.pure = true
  · rw [if_pos p] at q
    have e := Rp.own_nil d v A p r1
    subst e
    exact em_step (hv := []) s sl t1 r1 .nil (fun a z => nomatch z) (fun i z => nomatch z) q
  · rw [if_neg p] at q; exact q.elim
theorem em_m {i : Nat} {e : Expr} {es : List Expr} {g : Env → R (List D)} {mv : List Nat} (hi : i ∉ mv) (h : PE X e (tVar i)) (hr : EM X E W es g mv) (hs : starEach (e :: es) X.env = (false, eval e X.env) :: starEach es X.env := by rfl) : EM X E W (e :: es) (mM i g) (i :: mv) := by
  refine ⟨pa_mono (pa_cons h hr.pa hs) fun σ H Q ⟨F, ρ, fp, s, sl, q⟩ => ?_⟩
  rw [mM_eq] at q
  split at q
  · rename_i d ed
    obtain ⟨v, ev, r⟩ := sl.rp i d (some_some ed)
    exact ⟨v, ev, em_step (hv := [i]) s sl (Tr.refl s.fh) r (sl.nd i) (fun a ha => .inr ⟨i, List.mem_singleton_self _, ha⟩) (fun j hj => by rw [List.mem_singleton.mp hj]; exact hi) q⟩
  · exact q.elim
/-- the display -/
def eTupM (fs : Env → R (List D)) : Env → R D := fun ρ => (fs ρ).bind fun ds => if ds.length ≤ 16777216 then .ok (.tup ds) else .no
def eLstM (fs : Env → R (List D)) : Env → R D := fun ρ => (fs ρ).bind fun ds => if ds.length ≤ 16777216 then .ok (.lst true ds) else .no
@[simp] theorem eTupM_eq (fs : Env → R (List D)) (ρ : Env) : eTupM fs ρ = (fs ρ).bind fun ds => if ds.length ≤ 16777216 then .ok (.tup ds) else .no := rfl
@[simp] theorem eLstM_eq (fs : Env → R (List D)) (ρ : Env) : eLstM fs ρ = (fs ρ).bind fun ds => if ds.length ≤ 16777216 then .ok (.lst true ds) else .no := rfl
theorem rp_newT {k : Kx} {F H : Hp} {ds : List D} {vs : List V} {A : List Addr} {p : Addr} (fh : Ex F H) (hp : H p = none) (r : RpL k F H ds vs A) : Tr F H (upd F p (.tup vs)) (upd H p (.tup vs)) ∧ Rp k (upd F p (.tup vs)) (upd H p (.tup vs)) (.tup ds) (.ref p) A :=
  ⟨tr_newF fh hp, p, vs, rfl, .inl (.inl upd_same), r.tr (tr_newF fh hp)⟩
theorem rp_newL {k : Kx} {F H : Hp} {ds : List D} {vs : List V} {A : List Addr} {p : Addr} (fh : Ex F H) (hp : H p = none) (r : RpL k F H ds vs A) : Tr F H F (upd H p (.lst vs)) ∧ Rp k F (upd H p (.lst vs)) (.lst true ds) (.ref p) (p :: A) := by
  have hf : F p = none := by
    cases q : F p with
    | none => rfl
    | some u => rw [fh p u q] at hp; cases hp
  exact ⟨tr_new fh hp, p, vs, A, rfl, r.tr (tr_new fh hp), (fun z => nomatch z), fun _ => ⟨rfl, hf, upd_same⟩⟩
theorem not_new {k : Kx} {F H : Hp} {ds : List D} {vs : List V} {A : List Addr} {p : Addr} (hp : H p = none) (r : RpL k F H ds vs A) : p ∉ A := fun z => by
  obtain ⟨_, o, h, _⟩ := RpL.dom ds vs A r p z
  rw [hp] at h; cases h
theorem eo_tupM {es : List Expr} {fs : Env → R (List D)} {x1 : Nat} {pos : Pos} (h : EM X E W es fs []) : EO X E W (.Tuple es x1 pos) (eTupM fs) := by
  refine ⟨pe_mono (pe_tup h.pa) fun σ H Q ⟨F, ρ, s, q⟩ => ?_⟩
  obtain ⟨fp, sl⟩ := s.sl
  refine ⟨F, ρ, fp, s, sl, Res.mono q.bind (fun ds _ q F1 H1 vs A t1 r1 nd u => ?_) fun c _ z F' H' t => z F' H' t⟩
  by_cases hz : ds.length ≤ 16777216
  · rw [if_pos hz] at q
    refine ⟨big_le (by rw [← r1.len]; exact hz), fun p hp => ?_⟩
    obtain ⟨t2, r2⟩ := rp_newT t1.fh hp r1
    exact q _ _ _ A (t1.trans t2) r2 nd fun a ha => (u a ha).elim (fun z => z) fun ⟨i, z, _⟩ => nomatch z
  · rw [if_neg hz] at q; exact q.elim
theorem eo_lstM {es : List Expr} {fs : Env → R (List D)} {pos : Pos} (h : EM X E W es fs []) : EO X E W (.List es pos) (eLstM fs) := by
  refine ⟨pe_mono (pe_lst h.pa) fun σ H Q ⟨F, ρ, s, q⟩ => ?_⟩
  obtain ⟨fp, sl⟩ := s.sl
  refine ⟨F, ρ, fp, s, sl, Res.mono q.bind (fun ds _ q F1 H1 vs A t1 r1 nd u => ?_) fun c _ z F' H' t => z F' H' t⟩
  by_cases hz : ds.length ≤ 16777216
  · rw [if_pos hz] at q
    refine ⟨big_le (by rw [← r1.len]; exact hz), fun p hp => ?_⟩
    obtain ⟨t2, r2⟩ := rp_newL t1.fh hp r1
    have u' : ∀ a ∈ A, H a = none := fun a ha => (u a ha).elim (fun z => z) fun ⟨i, z, _⟩ => nomatch z
    refine q _ _ _ (p :: A) (t1.trans t2) r2 (List.nodup_cons.mpr ⟨not_new hp r1, nd⟩) fun a ha => ?_
    rcases List.mem_cons.mp ha with rfl | ha
    · exact none_back t1.hh hp
    · exact u' a ha
  · rw [if_neg hz] at q; exact q.elim
/-- return (a, b, ..), names moved -/
theorem ss_retT {es : List Expr} {fs : Env → R (List D)} {mv : List Nat} {x1 : Nat} {p pos : Pos} (hb : ∀ i ∈ mv, i ∉ E.bs) (h : EM X E W es fs mv) : SS X E W (.Return (some (.Tuple es x1 p)) pos) (sRet (eTupM fs)) := by
  refine ⟨ps_mono (ps_ret (pe_tup h.pa)) fun Z σ H ⟨F, ρ, s, q⟩ => ?_⟩
  obtain ⟨fp, sl⟩ := s.sl
  refine ⟨F, ρ, fp, s, sl, Res.mono q.st.bind (fun ds _ q F1 H1 vs A t1 r1 nd u => ?_) fun c _ z => SRes.exc s z⟩
  by_cases hz : ds.length ≤ 16777216
  · rw [if_pos hz] at q
    refine ⟨big_le (by rw [← r1.len]; exact hz), fun p hp => ?_⟩
    obtain ⟨t2, r2⟩ := rp_newT t1.fh hp r1
    have s2 := s.tr (t1.trans t2)
    refine q _ _ σ _ s2 ⟨s2.e0, s2.fh, s2.fr, s2.st, s2.bt, A, r2, nd, fun a ha => ?_⟩
    rcases u a ha with h | ⟨i, hi, h⟩
    · exact s.new h
    · exact (sl.nw i a h).elim (fun z => z) fun z => absurd z.2 (hb i hi)
  · rw [if_neg hz] at q; exact q.elim
theorem ss_retL {es : List Expr} {fs : Env → R (List D)} {mv : List Nat} {p pos : Pos} (hb : ∀ i ∈ mv, i ∉ E.bs) (h : EM X E W es fs mv) : SS X E W (.Return (some (.List es p)) pos) (sRet (eLstM fs)) := by
  refine ⟨ps_mono (ps_ret (pe_lst h.pa)) fun Z σ H ⟨F, ρ, s, q⟩ => ?_⟩
  obtain ⟨fp, sl⟩ := s.sl
  refine ⟨F, ρ, fp, s, sl, Res.mono q.st.bind (fun ds _ q F1 H1 vs A t1 r1 nd u => ?_) fun c _ z => SRes.exc s z⟩
  by_cases hz : ds.length ≤ 16777216
  · rw [if_pos hz] at q
    refine ⟨big_le (by rw [← r1.len]; exact hz), fun p hp => ?_⟩
    obtain ⟨t2, r2⟩ := rp_newL t1.fh hp r1
    have s2 := s.tr (t1.trans t2)
    refine q _ _ σ _ s2 ⟨s2.e0, s2.fh, s2.fr, s2.st, s2.bt, p :: A, r2, List.nodup_cons.mpr ⟨not_new hp r1, nd⟩, fun a ha => ?_⟩
    rcases List.mem_cons.mp ha with rfl | ha
    · exact s.new (none_back t1.hh hp)
    · rcases u a ha with h | ⟨i, hi, h⟩
      · exact s.new h
      · exact (sl.nw i a h).elim (fun z => z) fun z => absurd z.2 (hb i hi)
  · rw [if_neg hz] at q; exact q.elim
/-- a, b = e, e's value its own: what it owns is frozen -/
def sUnO (g : D → Env → Option Env) (f : Env → R D) : Env → SR := fun ρ => (f ρ).st ρ fun d => if d.cold = true then (if d.frz.pure = true then (match g d.frz ρ with
  | some ρ' => .nx ρ'
  | none => .no) else .no) else .no
@[simp] theorem sUnO_eq (g : D → Env → Option Env) (f : Env → R D) (ρ : Env) : sUnO g f ρ = (f ρ).st ρ fun d => if d.cold = true then (if d.frz.pure = true then (match g d.frz ρ with
  | some ρ' => .nx ρ'
  | none => .no) else .no) else .no := rfl
theorem ss_unO {tg e : Expr} {f : Env → R D} {g : D → Env → Option Env} {pos : Pos} (h : EO X E W e f) (hg : EG X E tg g) (hs : swapsWithSole [tg] e pos.line X.env = pure false := by rfl) (hw : swappedStores [tg] e X.env = pure none := by rfl)
    (h1 : (assignEach [tg] X.env).map (·.2) = [assign tg X.env] := by rfl) : SS X E W (.Assign [tg] e pos) (sUnO g f) := by
  refine ⟨ps_mono (ps_asg h.pe hg.pg hs hw h1) fun Z σ H h => ?_⟩
  obtain ⟨F, ρ, s, q⟩ := h
  refine ⟨F, ρ, s, Res.mono q.st (fun d _ q F1 H1 v A t1 r1 nd u => ?_) fun c _ z => SRes.exc s z⟩
  by_cases c : d.cold = true
  · rw [if_pos c] at q
    by_cases p : d.frz.pure = true
    · rw [if_pos p] at q
      cases eg : g d.frz ρ with
      | none => rw [eg] at q; exact q.elim
      | some ρ' =>
        rw [eg] at q
        have n := fun a ha => (Rp.dom d v A r1 a ha).1
        have t2 := tr_fz t1 n u
        exact ⟨_, ρ, d.frz, s.tr t2, p, Rp.frz (H' := H1) n d v A c (fun _ z => z) r1, ρ', eg, fun σ' s' => q _ H1 σ' t2.ff s'⟩
    · rw [if_neg p] at q; exact q.elim
  · rw [if_neg c] at q; exact q.elim
end
end Dv
end
section
set_option maxRecDepth 100000
set_option maxHeartbeats 1000000
namespace Dv
open PySem PySem.Spec PyProof.Rows L2

section
variable {X : Cx} {E : En} {W : WX}
/-! ### what may be a text, a list or a tuple is walked -/
def iAny (K : PySem.W.Frag) (tl : TE) : TI := fun σ H P => tl σ H fun x H1 => ((∃ a xs, x = .ref a ∧ SqL K H1 a xs ∧ P (Itl K a) H1) ∨ ∃ a xs, x = .ref a ∧ SqT K H1 a xs ∧ P (Itt K a) H1) ∨ ∃ z, x = .str z ∧ P (Its z) H1
theorem pi_any {tg l : Expr} {tl : TE} (hl : PE X l tl) : PI X tg l (iAny X.K tl) := by
  refine ⟨fun pins s σ H P I h => thn (hl.run pins s σ H _ I h) ?_⟩
  rintro v s1 ⟨x, H1, I1, r1, (⟨a, xs, rfl, hq, q⟩ | ⟨a, xs, rfl, hq, q⟩) | ⟨z, rfl, q⟩⟩
  · cases r1
    obtain ⟨its, _, pl, _⟩ := I1.list hq
    exact wpAny_pyIter_list pl.isList (pi_one I1 _ (turn_list a _) ⟨_, Heap.get?_push_size _ rfl, rfl, rfl⟩ q)
  · cases r1
    obtain ⟨its, _, pl, _⟩ := I1.tuple hq
    exact wpAny_pyIter_tuple (show s1.heap.IsTuple a its.toArray from pl) (pi_one I1 _ (turn_tuple a _) ⟨_, Heap.get?_push_size _ rfl, rfl, rfl⟩ q)
  · obtain ⟨t, rfl⟩ := r1
    cases ha : z.cps.all (· < 128)
    · exact wpAny_pyIter_wide ha (pi_one (tk := s1.toks) I1 _ (turn_str _ z t "str_iterator" (.inr rfl)) ⟨_, Heap.get?_push_size _ rfl, rfl, rfl⟩ q)
    · exact wpAny_pyIter_ascii ha (pi_one (tk := s1.toks) I1 _ (turn_str _ z t "str_ascii_iterator" (.inl rfl)) ⟨_, Heap.get?_push_size _ rfl, rfl, rfl⟩ q)
def walkW : D → Option (List D)
  | .str x => some (x.cps.toList.map fun c => .str ⟨#[c]⟩)
  | d => walkD d
@[simp] theorem walkW_str (x : Str) : walkW (.str x) = some (x.cps.toList.map fun c => .str ⟨#[c]⟩) := rfl
@[simp] theorem walkW_lst (o : Bool) (xs : List D) : walkW (.lst o xs) = walkD (.lst o xs) := rfl
@[simp] theorem walkW_tup (xs : List D) : walkW (.tup xs) = walkD (.tup xs) := rfl
@[simp] theorem walkW_scr (xs : List D) : walkW (.scr xs) = walkD (.scr xs) := rfl
/-- looked at -/
def iW (f : Env → R D) : Env → R (List D) := fun ρ => (f ρ).bind fun d => R.opt (walkW d)
@[simp] theorem iW_eq (f : Env → R D) (ρ : Env) : iW f ρ = (f ρ).bind fun d => R.opt (walkW d) := rfl
theorem ei_w {tg e : Expr} {f : Env → R D} (hK : E.k.K = X.K) (h : EV X E W e f) : EI X E W tg e (iW f) := by
  refine ⟨pi_mono (pi_any h.pe) fun σ H P q => ?_⟩
  obtain ⟨F, ρ, s, q⟩ := q
  refine ⟨F, ρ, s, Res.mono q.bind (fun d _ q F1 H1 v A t1 r1 => ?_) fun c _ z F' H' t => z F' H' t⟩
  obtain ⟨ds, e, p⟩ := Res.opt q
  rw [← hK]
  cases d with
  | str x => cases e; exact .inr ⟨x, r1.1, p F1 H1 _ t1 wk_str⟩
  | _ => exact .inl (walk_seq t1 r1 e p)
end
end Dv
end
section
set_option maxRecDepth 100000
set_option maxHeartbeats 1000000
namespace Dv
open PySem PySem.Spec PyProof.Rows L2
variable {X : Cx} {E : En} {W : WX}
/-- an own value, frozen to be looked at -/
def eFz (f : Env → R D) : Env → R D := fun ρ => (f ρ).bind fun d => if d.cold = true then .ok d.frz else .no
@[simp] theorem eFz_eq (f : Env → R D) (ρ : Env) : eFz f ρ = (f ρ).bind fun d => if d.cold = true then .ok d.frz else .no := rfl
theorem EO.vz {e : Expr} {f : Env → R D} (h : EO X E W e f) : EV X E W e (eFz f) := by
  refine ⟨pe_mono h.pe fun σ H Q ⟨F, ρ, s, q⟩ => ⟨F, ρ, s, ?_⟩⟩
  refine Res.mono q.bind (fun d _ p F' H' v A t r n u => ?_) fun _ _ z => z
  by_cases c : d.cold = true
  · rw [if_pos c] at p
    have n' := fun a ha => (Rp.dom d v A r a ha).1
    exact p _ H' v [] (tr_fz t n' u) (Rp.frz (H' := H') n' d v A c (fun _ z => z) r)
  · rw [if_neg c] at p
    exact p.elim
end Dv
end
set_option maxRecDepth 100000
set_option maxHeartbeats 4000000
namespace K45
open PySem PySem.Spec PyProof.Rows L2 Dv
noncomputable section
def top (i : Nat) : Stmt := PySem.Challenge.pw_stillroom_k45_styles.main.body.getD i (.Pass ⟨0, 0, 0, 0⟩)
abbrev s__law_codes : Stmt := top 30
theorem sc__law_codes : FnScope ["_law_text_here", "_law_sign"] ["_law_text_here"] (defScope s__law_codes) := ⟨rfl, rfl, rfl, by decide +kernel, rfl, by decide +kernel, by decide +kernel⟩
abbrev s__law_dict : Stmt := top 33
theorem sc__law_dict : FnScope ["_law_names", "_law_values", "_law_pairs", "_law_k"] ["_law_names", "_law_values"] (defScope s__law_dict) := ⟨rfl, rfl, rfl, by decide +kernel, rfl, by decide +kernel, by decide +kernel⟩
abbrev s__law_cell : Stmt := top 27
theorem sc__law_cell : FnScope ["_law_script", "_law_k"] ["_law_script", "_law_k"] (defScope s__law_cell) := ⟨rfl, rfl, rfl, by decide +kernel, rfl, by decide +kernel, by decide +kernel⟩
abbrev s__law_name : Stmt := top 31
theorem sc__law_name : FnScope ["_law_text_here"] ["_law_text_here"] (defScope s__law_name) := ⟨rfl, rfl, rfl, by decide +kernel, rfl, by decide +kernel, by decide +kernel⟩
abbrev s__law_property : Stmt := top 34
theorem sc__law_property : FnScope ["_law_cell_here", "_law_kind", "_law_how", "_law_left", "_law_value"] ["_law_cell_here", "_law_kind"] (defScope s__law_property) := ⟨rfl, rfl, rfl, by decide +kernel, rfl, by decide +kernel, by decide +kernel⟩
abbrev s__law_twice : Stmt := top 28
theorem sc__law_twice : FnScope ["_law_cell_here", "_law_k", "_law_x"] ["_law_cell_here", "_law_k"] (defScope s__law_twice) := ⟨rfl, rfl, rfl, by decide +kernel, rfl, by decide +kernel, by decide +kernel⟩
abbrev s__law_styles : Stmt := top 35
theorem sc__law_styles : FnScope ["_law_script", "_law_names", "_law_rows", "_law_k", "_law_cell_here", "_law_values", "_law_j", "_law_parent", "_law_one", "_law_value"] ["_law_script"] (defScope s__law_styles) := ⟨rfl, rfl, rfl, by decide +kernel, rfl, by decide +kernel, by decide +kernel⟩
abbrev s__law_book : Stmt := top 36
theorem sc__law_book : FnScope ["_law_rows", "_law_styles_here", "_law_objects", "_law_k", "_law_row"] ["_law_rows"] (defScope s__law_book) := ⟨rfl, rfl, rfl, by decide +kernel, rfl, by decide +kernel, by decide +kernel⟩
abbrev s_spend : Stmt := top 1
theorem sc_spend : FnScope ["left", "cost"] ["left", "cost"] (defScope s_spend) := ⟨rfl, rfl, rfl, by decide +kernel, rfl, by decide +kernel, by decide +kernel⟩
abbrev s_find : Stmt := top 4
theorem sc_find : FnScope ["book", "number", "one", "value"] ["book", "number"] (defScope s_find) := ⟨rfl, rfl, rfl, by decide +kernel, rfl, by decide +kernel, by decide +kernel⟩
abbrev s_follow : Stmt := top 6
theorem sc_follow : FnScope ["book", "value", "left", "_", "enough"] ["book", "value", "left"] (defScope s_follow) := ⟨rfl, rfl, rfl, by decide +kernel, rfl, by decide +kernel, by decide +kernel⟩
abbrev s_look : Stmt := top 13
theorem sc_look : FnScope ["book", "value", "found", "_"] ["book", "value"] (defScope s_look) := ⟨rfl, rfl, rfl, by decide +kernel, rfl, by decide +kernel, by decide +kernel⟩
abbrev s_get : Stmt := top 5
theorem sc_get : FnScope ["value", "key", "codes", "one", "found", "sign"] ["value", "key"] (defScope s_get) := ⟨rfl, rfl, rfl, by decide +kernel, rfl, by decide +kernel, by decide +kernel⟩
abbrev s_key : Stmt := top 14
theorem sc_key : FnScope ["book", "value", "name"] ["book", "value", "name"] (defScope s_key) := ⟨rfl, rfl, rfl, by decide +kernel, rfl, by decide +kernel, by decide +kernel⟩
abbrev s_root_of : Stmt := top 19
theorem sc_root_of : FnScope ["book"] ["book"] (defScope s_root_of) := ⟨rfl, rfl, rfl, by decide +kernel, rfl, by decide +kernel, by decide +kernel⟩
abbrev s_key_of_bytes : Stmt := top 20
theorem sc_key_of_bytes : FnScope ["book", "value", "data", "one", "found"] ["book", "value", "data"] (defScope s_key_of_bytes) := ⟨rfl, rfl, rfl, by decide +kernel, rfl, by decide +kernel, by decide +kernel⟩
abbrev s_data_of : Stmt := top 18
theorem sc_data_of : FnScope ["value", "kind"] ["value", "kind"] (defScope s_data_of) := ⟨rfl, rfl, rfl, by decide +kernel, rfl, by decide +kernel, by decide +kernel⟩
abbrev s_style_dicts : Stmt := top 21
theorem sc_style_dicts : FnScope ["book", "name", "styles", "found", "seen", "one"] ["book", "name"] (defScope s_style_dicts) := ⟨rfl, rfl, rfl, by decide +kernel, rfl, by decide +kernel, by decide +kernel⟩
abbrev s_first_integer : Stmt := top 22
theorem sc_first_integer : FnScope ["book", "dicts", "name", "low", "high", "one", "value"] ["book", "dicts", "name", "low", "high"] (defScope s_first_integer) := ⟨rfl, rfl, rfl, by decide +kernel, rfl, by decide +kernel, by decide +kernel⟩
abbrev s_first_name : Stmt := top 23
theorem sc_first_name : FnScope ["book", "dicts", "name", "allowed", "one", "value"] ["book", "dicts", "name", "allowed"] (defScope s_first_name) := ⟨rfl, rfl, rfl, by decide +kernel, rfl, by decide +kernel, by decide +kernel⟩
abbrev s_number_of : Stmt := top 16
theorem sc_number_of : FnScope ["value", "low", "high", "other"] ["value", "low", "high", "other"] (defScope s_number_of) := ⟨rfl, rfl, rfl, by decide +kernel, rfl, by decide +kernel, by decide +kernel⟩
abbrev s_bounded : Stmt := top 24
theorem sc_bounded : FnScope ["book", "dicts", "name", "low", "high", "other", "one", "value"] ["book", "dicts", "name", "low", "high", "other"] (defScope s_bounded) := ⟨rfl, rfl, rfl, by decide +kernel, rfl, by decide +kernel, by decide +kernel⟩
abbrev s_codes : Stmt := top 15
theorem sc_codes : FnScope ["text", "sign"] ["text"] (defScope s_codes) := ⟨rfl, rfl, rfl, by decide +kernel, rfl, by decide +kernel, by decide +kernel⟩
abbrev s_style_of : Stmt := top 25
theorem sc_style_of : FnScope ["book", "name", "dicts", "color", "back", "align", "one"] ["book", "name"] (defScope s_style_of) := ⟨rfl, rfl, rfl, by decide +kernel, rfl, by decide +kernel, by decide +kernel⟩
abbrev s_colour_of : Stmt := top 17
theorem sc_colour_of : FnScope ["value", "other"] ["value", "other"] (defScope s_colour_of) := ⟨rfl, rfl, rfl, by decide +kernel, rfl, by decide +kernel, by decide +kernel⟩
abbrev s__law_look : Stmt := top 37
theorem sc__law_look : FnScope ["_law_book_here", "_law_value", "_law_hits", "_law_number", "_law_other"] ["_law_book_here", "_law_value"] (defScope s__law_look) := ⟨rfl, rfl, rfl, by decide +kernel, rfl, by decide +kernel, by decide +kernel⟩
abbrev s__law_get : Stmt := top 38
theorem sc__law_get : FnScope ["_law_book_here", "_law_one", "_law_name_here", "_law_key", "_law_value"] ["_law_book_here", "_law_one", "_law_name_here"] (defScope s__law_get) := ⟨rfl, rfl, rfl, by decide +kernel, rfl, by decide +kernel, by decide +kernel⟩
abbrev s__law_chain : Stmt := top 39
theorem sc__law_chain : FnScope ["_law_book_here", "_law_rows", "_law_name_here", "_law_found", "_law_seen", "_law_turn", "_law_hits", "_law_parent", "_law_other", "_law_one"] ["_law_book_here", "_law_rows", "_law_name_here"] (defScope s__law_chain) := ⟨rfl, rfl, rfl, by decide +kernel, rfl, by decide +kernel, by decide +kernel⟩
abbrev s__law_first : Stmt := top 40
theorem sc__law_first : FnScope ["_law_book_here", "_law_chain_here", "_law_name_here", "_law_kind", "_law_low", "_law_high", "_law_one", "_law_value"] ["_law_book_here", "_law_chain_here", "_law_name_here", "_law_kind", "_law_low", "_law_high"] (defScope s__law_first) := ⟨rfl, rfl, rfl, by decide +kernel, rfl, by decide +kernel, by decide +kernel⟩
abbrev s__law_or : Stmt := top 41
theorem sc__law_or : FnScope ["_law_value", "_law_other"] ["_law_value", "_law_other"] (defScope s__law_or) := ⟨rfl, rfl, rfl, by decide +kernel, rfl, by decide +kernel, by decide +kernel⟩
abbrev s__law_near : Stmt := top 42
theorem sc__law_near : FnScope ["_law_book_here", "_law_chain_here", "_law_name_here", "_law_low", "_law_high", "_law_other", "_law_value"] ["_law_book_here", "_law_chain_here", "_law_name_here", "_law_low", "_law_high", "_law_other"] (defScope s__law_near) := ⟨rfl, rfl, rfl, by decide +kernel, rfl, by decide +kernel, by decide +kernel⟩
abbrev s__law_align : Stmt := top 43
theorem sc__law_align : FnScope ["_law_book_here", "_law_chain_here", "_law_one", "_law_value", "_law_word"] ["_law_book_here", "_law_chain_here"] (defScope s__law_align) := ⟨rfl, rfl, rfl, by decide +kernel, rfl, by decide +kernel, by decide +kernel⟩
abbrev s__law_due : Stmt := top 44
theorem sc__law_due : FnScope ["_law_book_here", "_law_rows", "_law_name_here", "_law_chain_here", "_law_font", "_law_color", "_law_back", "_law_size", "_law_indent"] ["_law_book_here", "_law_rows", "_law_name_here"] (defScope s__law_due) := ⟨rfl, rfl, rfl, by decide +kernel, rfl, by decide +kernel, by decide +kernel⟩
abbrev s_law : Stmt := top 45
theorem sc_law : FnScope ["_law_script", "_law_rows", "_law_book_here", "_law_name_here", "_law_number", "_law_low", "_law_high", "_law_due_here", "_law_value", "_law_found"] ["_law_script"] (defScope s_law) := ⟨rfl, rfl, rfl, by decide +kernel, rfl, by decide +kernel, by decide +kernel⟩
def c_ALIGNS : D := .tup [.str "Left", .str "Middle", .str "Right"]
def c_ENOUGH : D := .int 1000
def c_MOST_STEPS : D := .int 64
def c_MOST_STYLES : D := .int 8
def c_NONE : D := .tup [.str "none"]
def c_WHITEST : D := .int 16777215
/-! ### what each def means -/
def b__law_codes : Dv.Env → SR := sRet (eB gTuple (aV (eLc (iW (eVar 0)) (gNm 1) (tYes) (eB gOrd (aV (eVar 1) (aNil))) [1]) (aNil)))
def d__law_codes : List D → R D := fnD 1 2 b__law_codes
def lp__law_dict_1 : Dv.Env → SR := sIf (eT (e2 gIsNot (e2 gIx (eVar 1) (eVar 3)) (eC .non))) (sApp 2 (eTupM (mO (eCall 1 d__law_codes (aV (e2 gIx (eVar 0) (eVar 3)) (aNil))) (mV (e2 gIx (eVar 1) (eVar 3)) (mNil))))) (sNil)
def b__law_dict : Dv.Env → SR := sq (sAsg 2 (eLstM (mNil))) (sq (sFor (iA rng1 (aV (eB gLen (aV (eVar 0) (aNil))) (aNil))) (gNm 3) lp__law_dict_1) (sRet (eTupM (mO (eC (.str "dict")) (mO (eB gTuple (aV (eVar 2) (aNil))) (mNil))))))
def d__law_dict : List D → R D := fnD 2 4 b__law_dict
def b__law_cell : Dv.Env → SR := sq (sIf (eT (e2 gLt (eVar 1) (eB gLen (aV (eVar 0) (aNil))))) (sRet (eB gInt (aV (e2 gIx (eVar 0) (eVar 1)) (aNil)))) (sNil)) (sRet (eC (.int 0)))
def d__law_cell : List D → R D := fnD 2 2 b__law_cell
def b__law_name : Dv.Env → SR := sRet (eTupM (mO (eC (.str "name")) (mO (eCall 1 d__law_codes (aV (eVar 0) (aNil))) (mNil))))
def d__law_name : List D → R D := fnD 1 1 b__law_name
def b__law_property : Dv.Env → SR := sq (sAsg 2 (e2 gMod (eVar 0) (eC (.int 6)))) (sq (sAsg 3 (e2 gDiv (eVar 0) (eC (.int 6)))) (sq (sIf (eT (e2 gEq (eVar 2) (eC (.int 0)))) (sRet (eC .non)) (sNil)) (sq (sIf (eT (e2 gEq (eVar 2) (eC (.int 1)))) (sRet (asOwn (e2 gIx (eLst (aO (eTup (aO (eC (.str "none")) (aNil))) (aO (eTup (aO (eC (.str "text")) (aO (eTup (aO (eC (.int 65)) (aNil))) (aNil)))) (aO (eTup (aO (eC (.str "ref")) (aO (eC (.int 900)) (aNil)))) (aO (eTup (aO (eC (.str "bool")) (aO (eC (.int 1)) (aNil)))) (aNil)))))) (e2 gMod (eVar 3) (eC (.int 4)))))) (sNil)) (sq (sIf (eT (e2 gEq (eVar 1) (eC (.int 0)))) (sRet (eCall 1 d__law_name (aV (e2 gIx (eLst (aO (eC (.str "F")) (aO (eC (.str "")) (aO (eC (.str "G")) (aO (eC (.str "Left")) (aNil)))))) (e2 gMod (eVar 3) (eC (.int 4)))) (aNil)))) (sNil)) (sq (sIf (eT (e2 gEq (eVar 1) (eC (.int 1)))) (sRet (eCall 1 d__law_name (aV (e2 gIx (eLst (aO (eC (.str "Left")) (aO (eC (.str "Middle")) (aO (eC (.str "Right")) (aO (eC (.str "left")) (aNil)))))) (e2 gMod (eVar 3) (eC (.int 4)))) (aNil)))) (sNil)) (sq (sAsg 4 (eTupM (mO (eC (.str "int")) (mV (e2 gIx (eLst (aO (e2 gMod (eVar 3) (eC (.int 12))) (aO (e2 gMod (e1 gNeg (eVar 3)) (eC (.int 9))) (aO (e2 gMod (eVar 3) (eC (.int 16777216))) (aO (eC (.int 16777216)) (aO (e1 gNeg (eC (.int 1))) (aO (eC (.int 70)) (aNil)))))))) (e2 gMod (e2 gDiv (eVar 3) (eC (.int 100))) (eC (.int 6)))) (mNil))))) (sq (sIf (eT (e2 gEq (eVar 2) (eC (.int 2)))) (sRet (eTupM (mO (eC (.str "ref")) (mO (e2 gAdd (eC (.int 5)) (eVar 1)) (mNil))))) (sNil)) (sRet (eVar 4)))))))))
def d__law_property : List D → R D := fnD 2 5 b__law_property
def b__law_twice : Dv.Env → SR := sq (sAsg 2 (e2 gMod (eB gInt (aV (e2 gAdd (e2 gAdd (e2 gMul (eVar 0) (eC (.int 48271))) (e2 gMul (eVar 1) (eC (.int 69621)))) (eC (.int 7))) (aNil))) (eC (.int 2147483647)))) (sq (sAsg 2 (e2 gMod (eB gInt (aV (e2 gAdd (e2 gAdd (e2 gMul (eVar 2) (eVar 2)) (e2 gMul (eVar 1) (eC (.int 40692)))) (eC (.int 3))) (aNil))) (eC (.int 2147483629)))) (sq (sAsg 2 (e2 gMod (eB gInt (aV (e2 gAdd (e2 gAdd (e2 gMul (eVar 2) (eVar 2)) (e2 gMul (eVar 1) (eC (.int 30269)))) (eC (.int 5))) (aNil))) (eC (.int 2147483587)))) (sRet (e2 gDiv (eVar 2) (eC (.int 64))))))
def d__law_twice : List D → R D := fnD 2 3 b__law_twice
def lp__law_styles_2 : Dv.Env → SR := sApp 5 (eCall 2 d__law_property (aO (eCall 2 d__law_twice (aV (eVar 4) (aV (eVar 6) (aNil)))) (aV (e2 gIx (eLst (aO (eC (.int 0)) (aO (eC (.int 2)) (aO (eC (.int 3)) (aO (eC (.int 4)) (aO (eC (.int 1)) (aO (eC (.int 5)) (aO (eC (.int 6)) (aNil))))))))) (eVar 6)) (aNil))))
def lp__law_styles_1 : Dv.Env → SR := sq (sAsg 4 (eB gAbs (aV (eCall 2 d__law_cell (aV (eVar 0) (aO (e2 gAdd (eC (.int 1)) (eVar 3)) (aNil)))) (aNil)))) (sq (sAsg 5 (eLstM (mNil))) (sq (sFor (iA rng1 (aV (eC (.int 7)) (aNil))) (gNm 6) lp__law_styles_2) (sq (sAsg 7 (asOwn (e2 gIx (eFz (eLst (aO (eC .non) (aO (eCall 1 d__law_name (aV (e2 gIx (eVar 1) (e2 gMod (eCall 2 d__law_twice (aV (eVar 4) (aO (eC (.int 9)) (aNil)))) (eC (.int 4)))) (aNil))) (aO (eCall 1 d__law_name (aO (eC (.str "zz")) (aNil))) (aO (eCall 1 d__law_name (aO (eC (.str "")) (aNil))) (aO (eTup (aO (eC (.str "int")) (aO (eC (.int 1)) (aNil)))) (aNil)))))))) (e2 gMod (eVar 4) (eC (.int 5)))))) (sq (sIf (eT (e2 gEq (e2 gMod (e2 gDiv (eVar 4) (eC (.int 5))) (eC (.int 3))) (eC (.int 1)))) (sAsg 7 (eCall 1 d__law_name (aV (e2 gIx (eVar 1) (e2 gMod (e2 gAdd (eVar 3) (eC (.int 1))) (eC (.int 4)))) (aNil)))) (sNil)) (sq (sFz 7 (sAsg 8 (eCall 2 d__law_dict (aO (eLst (aO (eC (.str "Font")) (aO (eC (.str "Size")) (aO (eC (.str "Color")) (aO (eC (.str "Back")) (aO (eC (.str "Align")) (aO (eC (.str "Indent")) (aO (eC (.str "Gap")) (aO (eC (.str "Parent")) (aNil)))))))))) (aO (e2 gAdd (eVar 5) (eLst (aV (eVar 7) (aNil)))) (aNil)))))) (sq (sIf (eT (e2 gEq (e2 gMod (e2 gDiv (eVar 4) (eC (.int 15))) (eC (.int 9))) (eC (.int 1)))) (sAsg 8 (eTupM (mO (eC (.str "list")) (mO (eTupM (mNil)) (mNil))))) (sNil)) (sFz 8 (sApp 2 (eTupM (mV (e2 gIx (eVar 1) (eVar 3)) (mV (eVar 8) (mNil))))))))))))
def lp__law_styles_3 : Dv.Env → SR := sq (sAsg 9 (eC .non)) (sq (sIf (eT (e2 gEq (eVar 3) (e2 gMod (eB gAbs (aV (eCall 2 d__law_cell (aV (eVar 0) (aO (eC (.int 5)) (aNil)))) (aNil))) (eC (.int 11))))) (sAsg 9 (eTupM (mO (eC (.str "int")) (mO (eC (.int 3)) (mNil))))) (sNil)) (sFz 9 (sApp 2 (eTupM (mO (e2 gAdd (eC (.str "chain")) (eB gStr (aV (eVar 3) (aNil)))) (mO (eCall 2 d__law_dict (aO (eLst (aO (eC (.str "Parent")) (aO (eC (.str "Size")) (aNil)))) (aO (eLst (aO (eCall 1 d__law_name (aO (e2 gAdd (eC (.str "chain")) (eB gStr (aV (e2 gAdd (eVar 3) (eC (.int 1))) (aNil)))) (aNil))) (aV (eVar 9) (aNil)))) (aNil)))) (mNil)))))))
def b__law_styles : Dv.Env → SR := sq (sAsg 1 (eLstM (mO (eC (.str "a")) (mO (eC (.str "b")) (mO (eC (.str "c")) (mO (eC (.str "d")) (mNil))))))) (sq (sAsg 2 (eLstM (mNil))) (sq (sFor (iA rng1 (aV (eC (.int 4)) (aNil))) (gNm 3) lp__law_styles_1) (sq (sFor (iA rng1 (aV (eC (.int 10)) (aNil))) (gNm 3) lp__law_styles_3) (sRet (eVar 2)))))
def d__law_styles : List D → R D := fnD 1 10 b__law_styles
def lp__law_book_1 : Dv.Env → SR := sApp 2 (eTupM (mO (e2 gAdd (eC (.int 5)) (eVar 3)) (mO (eTupM (mO (eC (.str "int")) (mO (e2 gSub (e2 gMul (eC (.int 3)) (eVar 3)) (eC (.int 7))) (mNil)))) (mNil))))
def b__law_book : Dv.Env → SR := sq (sAsg 1 (eCall 2 d__law_dict (aO (eLc (iW (eVar 0)) (gNm 4) (tYes) (asOwn (e2 gIx (eVar 4) (eC (.int 0)))) [4]) (aO (eLc (iW (eVar 0)) (gNm 4) (tYes) (asOwn (e2 gIx (eVar 4) (eC (.int 1)))) [4]) (aNil))))) (sq (sFz 1 (sAsg 2 (eLstM (mO (eTupM (mO (eC (.int 1)) (mO (eCall 2 d__law_dict (aO (eLst (aO (eC (.str "Styles")) (aO (eC (.str "Pages")) (aNil)))) (aO (eLst (aV (eVar 1) (aO (eTup (aO (eC (.str "list")) (aO (eTup (aNil)) (aNil)))) (aNil)))) (aNil)))) (mNil)))) (mNil))))) (sq (sFor (iA rng2 (aV (eC (.int 2)) (aV (eC (.int 7)) (aNil)))) (gNm 3) lp__law_book_1) (sRet (eTupM (mO (eB gTuple (aV (eVar 2) (aNil))) (mO (eC (.int 1)) (mNil)))))))
def d__law_book : List D → R D := fnD 1 5 b__law_book
def b_spend : Dv.Env → SR := sq (sAsg 1 (eB gMax2 (aV (eVar 1) (aV (eC (.int 0)) (aNil))))) (sq (sIf (eT (e2 gGt (eVar 1) (eVar 0))) (sRet (eTupM (mO (eC (.int 0)) (mO (eC (.bl false)) (mNil))))) (sNil)) (sRet (eTupM (mO (e2 gSub (eVar 0) (eVar 1)) (mO (eC (.bl true)) (mNil))))))
def d_spend : List D → R D := fnD 2 2 b_spend
def lp_find_1 : Dv.Env → SR := sIf (eT (e2 gEq (eVar 2) (eVar 1))) (sRet (eVar 3)) (sNil)
def b_find : Dv.Env → SR := sq (sFor (iW (e2 gIx (eVar 0) (eC (.int 0)))) (gTp (gsCons (gNm 2) (gsCons (gNm 3) (gsNil)))) lp_find_1) (sRet (eC .non))
def d_find : List D → R D := fnD 2 4 b_find
def lp_follow_1 : Dv.Env → SR := sq (sIf (tOrF (eT (e2 gIs (eVar 1) (eC .non))) (eT (e2 gNe (e2 gIx (eVar 1) (eC (.int 0))) (eC (.str "ref"))))) (sRet (eTupM (mM 1 (mM 2 (mNil))))) (sNil)) (sq (sUnO (gTp (gsCons (gNm 2) (gsCons (gNm 4) (gsNil)))) (eCall 2 d_spend (aV (eVar 2) (aO (eC (.int 1)) (aNil))))) (sq (sIf (tNotF (eT (eVar 4))) (sRet (eTupM (mO (eC .non) (mM 2 (mNil))))) (sNil)) (sAsg 1 (eCall 2 d_find (aV (eVar 0) (aV (e2 gIx (eVar 1) (eC (.int 1))) (aNil)))))))
def b_follow : Dv.Env → SR := sq (sFor (iA rng1 (aV (eC c_MOST_STEPS) (aNil))) (gNm 3) lp_follow_1) (sq (sIf (tOrF (eT (e2 gIs (eVar 1) (eC .non))) (eT (e2 gNe (e2 gIx (eVar 1) (eC (.int 0))) (eC (.str "ref"))))) (sRet (eTupM (mM 1 (mM 2 (mNil))))) (sNil)) (sRet (eTupM (mO (eC .non) (mM 2 (mNil))))))
def d_follow : List D → R D := fnD 3 5 b_follow
def b_look : Dv.Env → SR := sq (sUnO (gTp (gsCons (gNm 2) (gsCons (gNm 3) (gsNil)))) (eCall 3 d_follow (aV (eVar 0) (aV (eVar 1) (aO (eC c_ENOUGH) (aNil)))))) (sRet (asOwn (eIf (eT (e2 gIs (eVar 2) (eC .non))) (eC c_NONE) (eVar 2))))
def d_look : List D → R D := fnD 2 4 b_look
def lp_get_1 : Dv.Env → SR := sIf (eT (e2 gEq (eVar 3) (eVar 2))) (sRet (eVar 4)) (sNil)
def b_get : Dv.Env → SR := sq (sIf (tOrF (eT (e2 gIs (eVar 0) (eC .non))) (eT (e2 gNotIn (e2 gIx (eVar 0) (eC (.int 0))) (eTup (aO (eC (.str "dict")) (aO (eC (.str "stream")) (aNil))))))) (sRet (eC .non)) (sNil)) (sq (sAsg 2 (eB gTuple (aV (eLc (iW (eVar 1)) (gNm 5) (tYes) (eB gOrd (aV (eVar 5) (aNil))) [5]) (aNil)))) (sq (sFor (iW (e2 gIx (eVar 0) (eC (.int 1)))) (gTp (gsCons (gNm 3) (gsCons (gNm 4) (gsNil)))) lp_get_1) (sRet (eC .non))))
def d_get : List D → R D := fnD 2 6 b_get
def b_key : Dv.Env → SR := sRet (eCall 2 d_look (aV (eVar 0) (aO (eCall 2 d_get (aV (eVar 1) (aV (eVar 2) (aNil)))) (aNil))))
def d_key : List D → R D := fnD 3 3 b_key
def b_root_of : Dv.Env → SR := sRet (eCall 2 d_look (aV (eVar 0) (aO (eCall 2 d_find (aV (eVar 0) (aV (e2 gIx (eVar 0) (eC (.int 1))) (aNil)))) (aNil))))
def d_root_of : List D → R D := fnD 1 1 b_root_of
def lp_key_of_bytes_1 : Dv.Env → SR := sIf (eT (e2 gEq (eVar 3) (eVar 2))) (sRet (eCall 2 d_look (aV (eVar 0) (aV (eVar 4) (aNil))))) (sNil)
def b_key_of_bytes : Dv.Env → SR := sq (sIf (eT (e2 gIn (e2 gIx (eVar 1) (eC (.int 0))) (eTup (aO (eC (.str "dict")) (aO (eC (.str "stream")) (aNil)))))) (sFor (iW (e2 gIx (eVar 1) (eC (.int 1)))) (gTp (gsCons (gNm 3) (gsCons (gNm 4) (gsNil)))) lp_key_of_bytes_1) (sNil)) (sRet (eC c_NONE))
def d_key_of_bytes : List D → R D := fnD 3 5 b_key_of_bytes
def b_data_of : Dv.Env → SR := sRet (asOwn (eIf (eT (e2 gEq (e2 gIx (eVar 0) (eC (.int 0))) (eVar 1))) (e2 gIx (eVar 0) (eC (.int 1))) (eTup (aNil))))
def d_data_of : List D → R D := fnD 2 2 b_data_of
def lp_style_dicts_1 : Dv.Env → SR := sq (sAsg 5 (eCall 3 d_key_of_bytes (aV (eVar 0) (aV (eVar 2) (aV (eVar 1) (aNil)))))) (sq (sIf (eT (e2 gNe (e2 gIx (eVar 5) (eC (.int 0))) (eC (.str "dict")))) (sBrk) (sNil)) (sq (sFz 5 (sApp 3 (asOwn (eVar 5)))) (sq (sFz 1 (sApp 4 (asOwn (eVar 1)))) (sq (sAsg 1 (eCall 2 d_data_of (aO (eCall 3 d_key (aV (eVar 0) (aV (eVar 5) (aO (eC (.str "Parent")) (aNil))))) (aO (eC (.str "name")) (aNil))))) (sIf (eT (e2 gEq (eVar 1) (eTup (aNil)))) (sBrk) (sNil))))))
def tw_style_dicts_1 : Dv.Env → R Bool := tAndF (eT (e2 gLt (eB gLen (aV (eVar 3) (aNil))) (eC c_MOST_STYLES))) (eT (e2 gNotIn (eVar 1) (eVar 4)))
def b_style_dicts : Dv.Env → SR := sq (sAsg 2 (eCall 3 d_key (aV (eVar 0) (aO (eCall 1 d_root_of (aV (eVar 0) (aNil))) (aO (eC (.str "Styles")) (aNil)))))) (sq (sAsg 3 (eLstM (mNil))) (sq (sAsg 4 (eLstM (mNil))) (sq (sWhile tw_style_dicts_1 lp_style_dicts_1) (sRet (eVar 3)))))
def d_style_dicts : List D → R D := fnD 2 6 b_style_dicts
def lp_first_integer_1 : Dv.Env → SR := sq (sAsg 6 (eCall 3 d_key (aV (eVar 0) (aV (eVar 5) (aV (eVar 2) (aNil)))))) (sIf (tAndF (eT (e2 gEq (e2 gIx (eVar 6) (eC (.int 0))) (eC (.str "int")))) (eT (e3 gLe gLe (eVar 3) (e2 gIx (eVar 6) (eC (.int 1))) (eVar 4)))) (sRet (asOwn (e2 gIx (eVar 6) (eC (.int 1))))) (sNil))
def b_first_integer : Dv.Env → SR := sq (sFor (iW (eVar 1)) (gNm 5) lp_first_integer_1) (sRet (eC .non))
def d_first_integer : List D → R D := fnD 5 7 b_first_integer
def lp_first_name_1 : Dv.Env → SR := sq (sAsg 5 (eCall 3 d_key (aV (eVar 0) (aV (eVar 4) (aV (eVar 2) (aNil)))))) (sIf (tAndF (eT (e2 gEq (e2 gIx (eVar 5) (eC (.int 0))) (eC (.str "name")))) (tOrF (eT (e2 gIs (eVar 3) (eC .non))) (eT (e2 gIn (e2 gIx (eVar 5) (eC (.int 1))) (eVar 3))))) (sRet (asOwn (e2 gIx (eVar 5) (eC (.int 1))))) (sNil))
def b_first_name : Dv.Env → SR := sq (sFor (iW (eVar 1)) (gNm 4) lp_first_name_1) (sRet (eC .non))
def d_first_name : List D → R D := fnD 4 6 b_first_name
def b_number_of : Dv.Env → SR := sq (sIf (eT (e2 gNe (e2 gIx (eVar 0) (eC (.int 0))) (eC (.str "int")))) (sRet (eVar 3)) (sNil)) (sRet (eB gMax2 (aV (eVar 1) (aV (eB gMin2 (aV (eVar 2) (aV (e2 gIx (eVar 0) (eC (.int 1))) (aNil)))) (aNil)))))
def d_number_of : List D → R D := fnD 4 4 b_number_of
def lp_bounded_1 : Dv.Env → SR := sq (sAsg 7 (eCall 3 d_key (aV (eVar 0) (aV (eVar 6) (aV (eVar 2) (aNil)))))) (sIf (eT (e2 gEq (e2 gIx (eVar 7) (eC (.int 0))) (eC (.str "int")))) (sRet (eCall 4 d_number_of (aV (eVar 7) (aV (eVar 3) (aV (eVar 4) (aV (eVar 5) (aNil))))))) (sNil))
def b_bounded : Dv.Env → SR := sq (sFor (iW (eVar 1)) (gNm 6) lp_bounded_1) (sRet (eVar 5))
def d_bounded : List D → R D := fnD 6 8 b_bounded
def b_codes : Dv.Env → SR := sRet (eB gTuple (aV (eLc (iW (eVar 0)) (gNm 1) (tYes) (eB gOrd (aV (eVar 1) (aNil))) [1]) (aNil)))
def d_codes : List D → R D := fnD 1 2 b_codes
def b_style_of : Dv.Env → SR := sq (sAsg 2 (eCall 2 d_style_dicts (aV (eVar 0) (aV (eVar 1) (aNil))))) (sq (sAsg 3 (eCall 5 d_first_integer (aV (eVar 0) (aV (eVar 2) (aO (eC (.str "Color")) (aO (eC (.int 0)) (aO (eC c_WHITEST) (aNil)))))))) (sq (sAsg 4 (eCall 5 d_first_integer (aV (eVar 0) (aV (eVar 2) (aO (eC (.str "Back")) (aO (eC (.int 0)) (aO (eC c_WHITEST) (aNil)))))))) (sq (sAsg 5 (eCall 4 d_first_name (aV (eVar 0) (aV (eVar 2) (aO (eC (.str "Align")) (aO (eLc (iO (eC c_ALIGNS)) (gNm 6) (tYes) (eCall 1 d_codes (aV (eVar 6) (aNil))) [6]) (aNil))))))) (sRet (eTupM (mO (eCall 4 d_first_name (aV (eVar 0) (aV (eVar 2) (aO (eC (.str "Font")) (aO (eC .non) (aNil)))))) (mO (eCall 6 d_bounded (aV (eVar 0) (aV (eVar 2) (aO (eC (.str "Size")) (aO (eC (.int 1)) (aO (eC (.int 8)) (aO (eC (.int 4)) (aNil)))))))) (mV (eIf (eT (e2 gIs (eVar 3) (eC .non))) (eC (.int 0)) (eVar 3)) (mV (eIf (eT (e2 gIs (eVar 4) (eC .non))) (e1 gNeg (eC (.int 1))) (eVar 4)) (mV (eIf (eT (e2 gIs (eVar 5) (eC .non))) (e2 gIx (eC c_ALIGNS) (eC (.int 0))) (e2 gIx (eLc (iO (eC c_ALIGNS)) (gNm 6) (eT (e2 gEq (eCall 1 d_codes (aV (eVar 6) (aNil))) (eVar 5))) (asOwn (eVar 6)) [6]) (eC (.int 0)))) (mO (eCall 6 d_bounded (aV (eVar 0) (aV (eVar 2) (aO (eC (.str "Indent")) (aO (eC (.int 0)) (aO (eC (.int 64)) (aO (eC (.int 0)) (aNil)))))))) (mO (eCall 6 d_bounded (aV (eVar 0) (aV (eVar 2) (aO (eC (.str "Gap")) (aO (eC (.int 0)) (aO (eC (.int 64)) (aO (eC (.int 0)) (aNil)))))))) (mNil)))))))))))))
def d_style_of : List D → R D := fnD 2 7 b_style_of
def b_colour_of : Dv.Env → SR := sq (sIf (tOrF (eT (e2 gNe (e2 gIx (eVar 0) (eC (.int 0))) (eC (.str "int")))) (tOrF (eT (e2 gLt (e2 gIx (eVar 0) (eC (.int 1))) (eC (.int 0)))) (eT (e2 gGt (e2 gIx (eVar 0) (eC (.int 1))) (eC c_WHITEST))))) (sRet (eVar 1)) (sNil)) (sRet (asOwn (e2 gIx (eVar 0) (eC (.int 1)))))
def d_colour_of : List D → R D := fnD 2 2 b_colour_of
def b__law_look : Dv.Env → SR := sq (sIf (tAndF (eT (e2 gIsNot (eVar 1) (eC .non))) (eT (e2 gEq (e2 gIx (eVar 1) (eC (.int 0))) (eC (.str "ref"))))) (sq (sAsg 2 (eLc (iW (e2 gIx (eVar 0) (eC (.int 0)))) (gTp (gsCons (gNm 3) (gsCons (gNm 4) (gsNil)))) (eT (e2 gEq (eVar 3) (e2 gIx (eVar 1) (eC (.int 1))))) (asOwn (eVar 4)) [3, 4])) (sq (sAsg 1 (eC .non)) (sIf (eT (e2 gGt (eB gLen (aV (eVar 2) (aNil))) (eC (.int 0)))) (sAsg 1 (asOwn (e2 gIx (eVar 2) (eC (.int 0))))) (sNil)))) (sNil)) (sq (sIf (eT (e2 gIs (eVar 1) (eC .non))) (sRet (eTupM (mO (eC (.str "none")) (mNil)))) (sNil)) (sRet (eVar 1)))
def d__law_look : List D → R D := fnD 2 5 b__law_look
def lp__law_get_1 : Dv.Env → SR := sIf (eT (e2 gEq (eVar 3) (eCall 1 d__law_codes (aV (eVar 2) (aNil))))) (sRet (eCall 2 d__law_look (aV (eVar 0) (aV (eVar 4) (aNil))))) (sNil)
def b__law_get : Dv.Env → SR := sq (sFor (iW (e2 gIx (eVar 1) (eC (.int 1)))) (gTp (gsCons (gNm 3) (gsCons (gNm 4) (gsNil)))) lp__law_get_1) (sRet (eTupM (mO (eC (.str "none")) (mNil))))
def d__law_get : List D → R D := fnD 3 5 b__law_get
def lp__law_chain_1 : Dv.Env → SR := sq (sAsg 6 (eLc (iW (eVar 1)) (gTp (gsCons (gNm 8) (gsCons (gNm 9) (gsNil)))) (eT (e2 gEq (eCall 1 d__law_codes (aV (eVar 8) (aNil))) (eVar 2))) (asOwn (eVar 9)) [8, 9])) (sq (sIf (tOrF (eT (e2 gIn (eVar 2) (eVar 4))) (tOrF (eT (e2 gEq (eB gLen (aV (eVar 6) (aNil))) (eC (.int 0)))) (eT (e2 gNe (e2 gIx (e2 gIx (eVar 6) (eC (.int 0))) (eC (.int 0))) (eC (.str "dict")))))) (sBrk) (sNil)) (sq (sFz 2 (sApp 4 (asOwn (eVar 2)))) (sq (sApp 3 (asOwn (e2 gIx (eVar 6) (eC (.int 0))))) (sq (sAsg 7 (eCall 3 d__law_get (aV (eVar 0) (aV (e2 gIx (eVar 6) (eC (.int 0))) (aO (eC (.str "Parent")) (aNil)))))) (sq (sIf (tOrF (eT (e2 gNe (e2 gIx (eVar 7) (eC (.int 0))) (eC (.str "name")))) (eT (e2 gEq (e2 gIx (eVar 7) (eC (.int 1))) (eTup (aNil))))) (sBrk) (sNil)) (sAsg 2 (asOwn (e2 gIx (eVar 7) (eC (.int 1))))))))))
def b__law_chain : Dv.Env → SR := sq (sAsg 3 (eLstM (mNil))) (sq (sAsg 4 (eLstM (mNil))) (sq (sFor (iA rng1 (aV (eC (.int 8)) (aNil))) (gNm 5) lp__law_chain_1) (sRet (eVar 3))))
def d__law_chain : List D → R D := fnD 3 10 b__law_chain
def lp__law_first_1 : Dv.Env → SR := sq (sAsg 7 (eCall 3 d__law_get (aV (eVar 0) (aV (eVar 6) (aV (eVar 2) (aNil)))))) (sIf (tAndF (eT (e2 gEq (e2 gIx (eVar 7) (eC (.int 0))) (eVar 3))) (tOrF (eT (e2 gEq (eVar 3) (eC (.str "name")))) (eT (e3 gLe gLe (eVar 4) (e2 gIx (eVar 7) (eC (.int 1))) (eVar 5))))) (sRet (asOwn (e2 gIx (eVar 7) (eC (.int 1))))) (sNil))
def b__law_first : Dv.Env → SR := sq (sFor (iW (eVar 1)) (gNm 6) lp__law_first_1) (sRet (eC .non))
def d__law_first : List D → R D := fnD 6 8 b__law_first
def b__law_or : Dv.Env → SR := sq (sIf (eT (e2 gIs (eVar 0) (eC .non))) (sRet (eVar 1)) (sNil)) (sRet (eVar 0))
def d__law_or : List D → R D := fnD 2 2 b__law_or
def b__law_near : Dv.Env → SR := sq (sAsg 6 (eCall 6 d__law_first (aV (eVar 0) (aV (eVar 1) (aV (eVar 2) (aO (eC (.str "int")) (aO (e1 gNeg (eC (.int 5000000000))) (aO (eC (.int 5000000000)) (aNil))))))))) (sq (sIf (eT (e2 gIs (eVar 6) (eC .non))) (sRet (eVar 5)) (sNil)) (sRet (eB gMax2 (aV (eVar 3) (aV (eB gMin2 (aV (eVar 4) (aV (eVar 6) (aNil)))) (aNil))))))
def d__law_near : List D → R D := fnD 6 7 b__law_near
def lp__law_align_2 : Dv.Env → SR := sIf (eT (e2 gEq (eVar 3) (eCall 1 d__law_name (aV (eVar 4) (aNil))))) (sRet (eVar 4)) (sNil)
def lp__law_align_1 : Dv.Env → SR := sq (sAsg 3 (eCall 3 d__law_get (aV (eVar 0) (aV (eVar 2) (aO (eC (.str "Align")) (aNil)))))) (sFor (iO (eLst (aO (eC (.str "Left")) (aO (eC (.str "Middle")) (aO (eC (.str "Right")) (aNil)))))) (gNm 4) lp__law_align_2)
def b__law_align : Dv.Env → SR := sq (sFor (iW (eVar 1)) (gNm 2) lp__law_align_1) (sRet (eC (.str "Left")))
def d__law_align : List D → R D := fnD 2 5 b__law_align
def b__law_due : Dv.Env → SR := sq (sAsg 3 (eCall 3 d__law_chain (aV (eVar 0) (aV (eVar 1) (aV (eVar 2) (aNil)))))) (sq (sAsg 4 (eCall 6 d__law_first (aV (eVar 0) (aV (eVar 3) (aO (eC (.str "Font")) (aO (eC (.str "name")) (aO (eC (.int 0)) (aO (eC (.int 0)) (aNil))))))))) (sq (sAsg 5 (eCall 2 d__law_or (aO (eCall 6 d__law_first (aV (eVar 0) (aV (eVar 3) (aO (eC (.str "Color")) (aO (eC (.str "int")) (aO (eC (.int 0)) (aO (eC (.int 16777215)) (aNil)))))))) (aO (eC (.int 0)) (aNil))))) (sq (sAsg 6 (eCall 2 d__law_or (aO (eCall 6 d__law_first (aV (eVar 0) (aV (eVar 3) (aO (eC (.str "Back")) (aO (eC (.str "int")) (aO (eC (.int 0)) (aO (eC (.int 16777215)) (aNil)))))))) (aO (e1 gNeg (eC (.int 1))) (aNil))))) (sq (sAsg 7 (eCall 6 d__law_near (aV (eVar 0) (aV (eVar 3) (aO (eC (.str "Size")) (aO (eC (.int 1)) (aO (eC (.int 8)) (aO (eC (.int 4)) (aNil))))))))) (sq (sAsg 8 (eCall 6 d__law_near (aV (eVar 0) (aV (eVar 3) (aO (eC (.str "Indent")) (aO (eC (.int 0)) (aO (eC (.int 64)) (aO (eC (.int 0)) (aNil))))))))) (sRet (eTupM (mM 4 (mM 7 (mM 5 (mM 6 (mO (eCall 2 d__law_align (aV (eVar 0) (aV (eVar 3) (aNil)))) (mM 8 (mO (eCall 6 d__law_near (aV (eVar 0) (aV (eVar 3) (aO (eC (.str "Gap")) (aO (eC (.int 0)) (aO (eC (.int 64)) (aO (eC (.int 0)) (aNil)))))))) (mNil)))))))))))))))
def d__law_due : List D → R D := fnD 3 9 b__law_due
def lp_law_1 : Dv.Env → SR := sq (sAsg 9 (eCall 2 d_style_of (aV (eVar 2) (aO (eCall 1 d__law_codes (aV (eVar 3) (aNil))) (aNil))))) (sIf (tOrF (tNotF (eT (eIsi "tuple" (eVar 9)))) (eT (e2 gNe (eVar 9) (eCall 3 d__law_due (aV (eVar 2) (aV (eVar 1) (aO (eCall 1 d__law_codes (aV (eVar 3) (aNil))) (aNil)))))))) (sRet (eC (.bl false))) (sNil))
def lp_law_2 : Dv.Env → SR := sIf (tOrF (eT (e2 gNe (eCall 4 d_number_of (aV (eVar 8) (aV (eVar 5) (aV (eVar 6) (aO (eC (.int 77)) (aNil)))))) (eC (.int 77)))) (eT (e2 gNe (eCall 2 d_colour_of (aV (eVar 8) (aO (eC (.int 78)) (aNil)))) (eC (.int 78))))) (sRet (eC (.bl false))) (sNil)
def b_law : Dv.Env → SR := sq (sAsg 1 (eCall 1 d__law_styles (aV (eVar 0) (aNil)))) (sq (sAsg 2 (eCall 1 d__law_book (aV (eVar 1) (aNil)))) (sq (sFor (iO (eLst (aO (eC (.str "a")) (aO (eC (.str "b")) (aO (eC (.str "c")) (aO (eC (.str "d")) (aO (eC (.str "chain0")) (aO (e2 gAdd (eC (.str "chain")) (eB gStr (aV (e2 gMod (eB gAbs (aV (eCall 2 d__law_cell (aV (eVar 0) (aO (eC (.int 6)) (aNil)))) (aNil))) (eC (.int 12))) (aNil)))) (aO (eC (.str "")) (aO (eC (.str "zz")) (aNil))))))))))) (gNm 3) lp_law_1) (sq (sAsg 4 (e2 gSub (e2 gMod (eB gInt (aV (eCall 2 d__law_cell (aV (eVar 0) (aO (eC (.int 7)) (aNil)))) (aNil))) (eC (.int 4294967295))) (eC (.int 2147483647)))) (sq (sAsg 5 (e2 gSub (e2 gMod (eB gAbs (aV (eCall 2 d__law_cell (aV (eVar 0) (aO (eC (.int 8)) (aNil)))) (aNil))) (eC (.int 100))) (eC (.int 50)))) (sq (sAsg 6 (e2 gAdd (eVar 5) (e2 gMod (eB gAbs (aV (eCall 2 d__law_cell (aV (eVar 0) (aO (eC (.int 9)) (aNil)))) (aNil))) (eC (.int 100))))) (sq (sIf (eT (e2 gNe (eCall 4 d_number_of (aO (eTup (aO (eC (.str "int")) (aV (eVar 4) (aNil)))) (aV (eVar 5) (aV (eVar 6) (aO (eC (.int 1000)) (aNil)))))) (eB gMax2 (aV (eVar 5) (aV (eB gMin2 (aV (eVar 6) (aV (eVar 4) (aNil)))) (aNil)))))) (sRet (eC (.bl false))) (sNil)) (sq (sAsg 7 (e1 gNeg (eC (.int 1)))) (sq (sIf (eT (e3 gLe gLe (eC (.int 0)) (eVar 4) (eC (.int 16777215)))) (sAsg 7 (asOwn (eVar 4))) (sNil)) (sq (sIf (tOrF (eT (e2 gNe (eCall 2 d_colour_of (aO (eTup (aO (eC (.str "int")) (aV (eVar 4) (aNil)))) (aO (e1 gNeg (eC (.int 1))) (aNil)))) (eVar 7))) (eT (e2 gNe (eCall 2 d_colour_of (aO (eTup (aO (eC (.str "int")) (aO (eC (.int 16777215)) (aNil)))) (aO (e1 gNeg (eC (.int 1))) (aNil)))) (eC (.int 16777215))))) (sRet (eC (.bl false))) (sNil)) (sq (sFor (iO (eLst (aO (eTup (aO (eC (.str "none")) (aNil))) (aO (eTup (aO (eC (.str "bool")) (aO (eC (.int 1)) (aNil)))) (aO (eTup (aO (eC (.str "name")) (aO (eTup (aO (eC (.int 49)) (aNil))) (aNil)))) (aO (eTup (aO (eC (.str "text")) (aO (eTup (aNil)) (aNil)))) (aNil))))))) (gNm 8) lp_law_2) (sRet (eC (.bl true)))))))))))))
def d_law : List D → R D := fnD 1 10 b_law
/-! ### what stands in the text -/
structure Ad where
  a__law_codes : Addr
  fd__law_codes : FuncData
  a__law_dict : Addr
  fd__law_dict : FuncData
  a__law_cell : Addr
  fd__law_cell : FuncData
  a__law_name : Addr
  fd__law_name : FuncData
  a__law_property : Addr
  fd__law_property : FuncData
  a__law_twice : Addr
  fd__law_twice : FuncData
  a__law_styles : Addr
  fd__law_styles : FuncData
  a__law_book : Addr
  fd__law_book : FuncData
  a_spend : Addr
  fd_spend : FuncData
  a_find : Addr
  fd_find : FuncData
  a_follow : Addr
  fd_follow : FuncData
  a_look : Addr
  fd_look : FuncData
  a_get : Addr
  fd_get : FuncData
  a_key : Addr
  fd_key : FuncData
  a_root_of : Addr
  fd_root_of : FuncData
  a_key_of_bytes : Addr
  fd_key_of_bytes : FuncData
  a_data_of : Addr
  fd_data_of : FuncData
  a_style_dicts : Addr
  fd_style_dicts : FuncData
  a_first_integer : Addr
  fd_first_integer : FuncData
  a_first_name : Addr
  fd_first_name : FuncData
  a_number_of : Addr
  fd_number_of : FuncData
  a_bounded : Addr
  fd_bounded : FuncData
  a_codes : Addr
  fd_codes : FuncData
  a_style_of : Addr
  fd_style_of : FuncData
  a_colour_of : Addr
  fd_colour_of : FuncData
  a__law_look : Addr
  fd__law_look : FuncData
  a__law_get : Addr
  fd__law_get : FuncData
  a__law_chain : Addr
  fd__law_chain : FuncData
  a__law_first : Addr
  fd__law_first : FuncData
  a__law_or : Addr
  fd__law_or : FuncData
  a__law_near : Addr
  fd__law_near : FuncData
  a__law_align : Addr
  fd__law_align : FuncData
  a__law_due : Addr
  fd__law_due : FuncData
  a_law : Addr
  fd_law : FuncData
def kx (K : PySem.W.Frag) : Kx := ⟨K, fun _ => 0⟩
def ec (A : Ad) : Nat → Value := fun c => match c with
  | _ => .none
structure Txt (K : PySem.W.Frag) (mg : Str → Option Value) (A : Ad) : Prop where
  f__law_codes : Fun K "_law_codes" "_law_codes" s__law_codes A.a__law_codes A.fd__law_codes
  m__law_codes : mg "_law_codes" = some (.ref A.a__law_codes)
  i__law_codes : Binds K A.fd__law_codes ["_law_text_here"] []
  f__law_dict : Fun K "_law_dict" "_law_dict" s__law_dict A.a__law_dict A.fd__law_dict
  m__law_dict : mg "_law_dict" = some (.ref A.a__law_dict)
  i__law_dict : Binds K A.fd__law_dict ["_law_names", "_law_values"] []
  f__law_cell : Fun K "_law_cell" "_law_cell" s__law_cell A.a__law_cell A.fd__law_cell
  m__law_cell : mg "_law_cell" = some (.ref A.a__law_cell)
  i__law_cell : Binds K A.fd__law_cell ["_law_script", "_law_k"] []
  f__law_name : Fun K "_law_name" "_law_name" s__law_name A.a__law_name A.fd__law_name
  m__law_name : mg "_law_name" = some (.ref A.a__law_name)
  i__law_name : Binds K A.fd__law_name ["_law_text_here"] []
  f__law_property : Fun K "_law_property" "_law_property" s__law_property A.a__law_property A.fd__law_property
  m__law_property : mg "_law_property" = some (.ref A.a__law_property)
  i__law_property : Binds K A.fd__law_property ["_law_cell_here", "_law_kind"] []
  f__law_twice : Fun K "_law_twice" "_law_twice" s__law_twice A.a__law_twice A.fd__law_twice
  m__law_twice : mg "_law_twice" = some (.ref A.a__law_twice)
  i__law_twice : Binds K A.fd__law_twice ["_law_cell_here", "_law_k"] []
  f__law_styles : Fun K "_law_styles" "_law_styles" s__law_styles A.a__law_styles A.fd__law_styles
  m__law_styles : mg "_law_styles" = some (.ref A.a__law_styles)
  i__law_styles : Binds K A.fd__law_styles ["_law_script"] []
  f__law_book : Fun K "_law_book" "_law_book" s__law_book A.a__law_book A.fd__law_book
  m__law_book : mg "_law_book" = some (.ref A.a__law_book)
  i__law_book : Binds K A.fd__law_book ["_law_rows"] []
  f_spend : Fun K "spend" "spend" s_spend A.a_spend A.fd_spend
  m_spend : mg "spend" = some (.ref A.a_spend)
  i_spend : Binds K A.fd_spend ["left", "cost"] []
  f_find : Fun K "find" "find" s_find A.a_find A.fd_find
  m_find : mg "find" = some (.ref A.a_find)
  i_find : Binds K A.fd_find ["book", "number"] []
  f_follow : Fun K "follow" "follow" s_follow A.a_follow A.fd_follow
  m_follow : mg "follow" = some (.ref A.a_follow)
  i_follow : Binds K A.fd_follow ["book", "value", "left"] []
  f_look : Fun K "look" "look" s_look A.a_look A.fd_look
  m_look : mg "look" = some (.ref A.a_look)
  i_look : Binds K A.fd_look ["book", "value"] []
  f_get : Fun K "get" "get" s_get A.a_get A.fd_get
  m_get : mg "get" = some (.ref A.a_get)
  i_get : Binds K A.fd_get ["value", "key"] []
  f_key : Fun K "key" "key" s_key A.a_key A.fd_key
  m_key : mg "key" = some (.ref A.a_key)
  i_key : Binds K A.fd_key ["book", "value", "name"] []
  f_root_of : Fun K "root_of" "root_of" s_root_of A.a_root_of A.fd_root_of
  m_root_of : mg "root_of" = some (.ref A.a_root_of)
  i_root_of : Binds K A.fd_root_of ["book"] []
  f_key_of_bytes : Fun K "key_of_bytes" "key_of_bytes" s_key_of_bytes A.a_key_of_bytes A.fd_key_of_bytes
  m_key_of_bytes : mg "key_of_bytes" = some (.ref A.a_key_of_bytes)
  i_key_of_bytes : Binds K A.fd_key_of_bytes ["book", "value", "data"] []
  f_data_of : Fun K "data_of" "data_of" s_data_of A.a_data_of A.fd_data_of
  m_data_of : mg "data_of" = some (.ref A.a_data_of)
  i_data_of : Binds K A.fd_data_of ["value", "kind"] []
  f_style_dicts : Fun K "style_dicts" "style_dicts" s_style_dicts A.a_style_dicts A.fd_style_dicts
  m_style_dicts : mg "style_dicts" = some (.ref A.a_style_dicts)
  i_style_dicts : Binds K A.fd_style_dicts ["book", "name"] []
  f_first_integer : Fun K "first_integer" "first_integer" s_first_integer A.a_first_integer A.fd_first_integer
  m_first_integer : mg "first_integer" = some (.ref A.a_first_integer)
  i_first_integer : Binds K A.fd_first_integer ["book", "dicts", "name", "low", "high"] []
  f_first_name : Fun K "first_name" "first_name" s_first_name A.a_first_name A.fd_first_name
  m_first_name : mg "first_name" = some (.ref A.a_first_name)
  i_first_name : Binds K A.fd_first_name ["book", "dicts", "name", "allowed"] []
  f_number_of : Fun K "number_of" "number_of" s_number_of A.a_number_of A.fd_number_of
  m_number_of : mg "number_of" = some (.ref A.a_number_of)
  i_number_of : Binds K A.fd_number_of ["value", "low", "high", "other"] []
  f_bounded : Fun K "bounded" "bounded" s_bounded A.a_bounded A.fd_bounded
  m_bounded : mg "bounded" = some (.ref A.a_bounded)
  i_bounded : Binds K A.fd_bounded ["book", "dicts", "name", "low", "high", "other"] []
  f_codes : Fun K "codes" "codes" s_codes A.a_codes A.fd_codes
  m_codes : mg "codes" = some (.ref A.a_codes)
  i_codes : Binds K A.fd_codes ["text"] []
  f_style_of : Fun K "style_of" "style_of" s_style_of A.a_style_of A.fd_style_of
  m_style_of : mg "style_of" = some (.ref A.a_style_of)
  i_style_of : Binds K A.fd_style_of ["book", "name"] []
  f_colour_of : Fun K "colour_of" "colour_of" s_colour_of A.a_colour_of A.fd_colour_of
  m_colour_of : mg "colour_of" = some (.ref A.a_colour_of)
  i_colour_of : Binds K A.fd_colour_of ["value", "other"] []
  f__law_look : Fun K "_law_look" "_law_look" s__law_look A.a__law_look A.fd__law_look
  m__law_look : mg "_law_look" = some (.ref A.a__law_look)
  i__law_look : Binds K A.fd__law_look ["_law_book_here", "_law_value"] []
  f__law_get : Fun K "_law_get" "_law_get" s__law_get A.a__law_get A.fd__law_get
  m__law_get : mg "_law_get" = some (.ref A.a__law_get)
  i__law_get : Binds K A.fd__law_get ["_law_book_here", "_law_one", "_law_name_here"] []
  f__law_chain : Fun K "_law_chain" "_law_chain" s__law_chain A.a__law_chain A.fd__law_chain
  m__law_chain : mg "_law_chain" = some (.ref A.a__law_chain)
  i__law_chain : Binds K A.fd__law_chain ["_law_book_here", "_law_rows", "_law_name_here"] []
  f__law_first : Fun K "_law_first" "_law_first" s__law_first A.a__law_first A.fd__law_first
  m__law_first : mg "_law_first" = some (.ref A.a__law_first)
  i__law_first : Binds K A.fd__law_first ["_law_book_here", "_law_chain_here", "_law_name_here", "_law_kind", "_law_low", "_law_high"] []
  f__law_or : Fun K "_law_or" "_law_or" s__law_or A.a__law_or A.fd__law_or
  m__law_or : mg "_law_or" = some (.ref A.a__law_or)
  i__law_or : Binds K A.fd__law_or ["_law_value", "_law_other"] []
  f__law_near : Fun K "_law_near" "_law_near" s__law_near A.a__law_near A.fd__law_near
  m__law_near : mg "_law_near" = some (.ref A.a__law_near)
  i__law_near : Binds K A.fd__law_near ["_law_book_here", "_law_chain_here", "_law_name_here", "_law_low", "_law_high", "_law_other"] []
  f__law_align : Fun K "_law_align" "_law_align" s__law_align A.a__law_align A.fd__law_align
  m__law_align : mg "_law_align" = some (.ref A.a__law_align)
  i__law_align : Binds K A.fd__law_align ["_law_book_here", "_law_chain_here"] []
  f__law_due : Fun K "_law_due" "_law_due" s__law_due A.a__law_due A.fd__law_due
  m__law_due : mg "_law_due" = some (.ref A.a__law_due)
  i__law_due : Binds K A.fd__law_due ["_law_book_here", "_law_rows", "_law_name_here"] []
  f_law : Fun K "law" "law" s_law A.a_law A.fd_law
  m_law : mg "law" = some (.ref A.a_law)
  i_law : Binds K A.fd_law ["_law_script"] []
  z_abs : mg "abs" = none
  z_int : mg "int" = none
  z_isinstance : mg "isinstance" = none
  z_len : mg "len" = none
  z_max : mg "max" = none
  z_min : mg "min" = none
  z_ord : mg "ord" = none
  z_range : mg "range" = none
  z_str : mg "str" = none
  z_tuple : mg "tuple" = none
  g_ALIGNS : Glob (kx K) mg "ALIGNS" c_ALIGNS
  g_ENOUGH : Glob (kx K) mg "ENOUGH" c_ENOUGH
  g_MOST_STEPS : Glob (kx K) mg "MOST_STEPS" c_MOST_STEPS
  g_MOST_STYLES : Glob (kx K) mg "MOST_STYLES" c_MOST_STYLES
  g_NONE : Glob (kx K) mg "NONE" c_NONE
  g_WHITEST : Glob (kx K) mg "WHITEST" c_WHITEST
section
variable {P : Program} {w : World} {K : PySem.W.Frag} {mg : Str → Option Value} {base : Heap} {A : Ad}
theorem ok__law_codes (T : Txt K mg A) : FnOk P w K mg base (L2.CX P w) 1 A.a__law_codes A.fd__law_codes ["_law_text_here"] (spD (kx K) (ec A) 1 d__law_codes) := by
  refine fn_ok 0 1 2 (kx K) (ec A) rfl rfl T.f__law_codes sc__law_codes (b := b__law_codes) fun cdv A' outer s H Ew He F0 v0 W hr tk hp => ?_
  exact sb_one (ss_ret (eo_T call_tuple_of says_tuple rfl T.z_tuple bb_tuple (ea_v (EO.v (eo_lc (own := [("_law_sign", 1)]) rfl sc__law_codes.nd (ei_w rfl (ev_var (pv 0))) (by show blkC ["_law_text_here", "_law_sign"] (defScope s__law_codes) _ _ = true; decide +kernel) (fun _ _ _ _ _ => egw_name (by decide) sc__law_codes.nd rfl (by first | exact .inl rfl | exact .inr rfl) (fun z => nomatch z)) (fun _ _ _ _ _ tk => ets_nil) (fun _ _ _ _ _ tk => eo_B call_ord says_ord rfl T.z_ord bb_ord (ea_v (ev_var (pv 1)) (ea_nil))) (fun _ _ z => nomatch z))) (ea_nil))))
theorem ok__law_dict (T : Txt K mg A) : FnOk P w K mg base (L2.CX P w) 2 A.a__law_dict A.fd__law_dict ["_law_names", "_law_values"] (spD (kx K) (ec A) 2 d__law_dict) := by
  refine fn_ok 1 2 4 (kx K) (ec A) rfl rfl T.f__law_dict sc__law_dict (b := b__law_dict) fun cdv A' outer s H Ew He F0 v0 W hr tk hp => ?_
  exact sb_cons (ss_asg sc__law_dict.nd rfl (by first | exact .inl rfl | exact .inr rfl) (fun z => nomatch z) (eo_lstM (em_nil))) (sb_cons (ss_for hp rfl (ei_rng1 rfl T.z_range (ea_v (EO.v (eo_B call_len says_len rfl T.z_len bb_len (ea_v (ev_var (pv 0)) (ea_nil)))) (ea_nil))) (eg_name sc__law_dict.nd rfl (by first | exact .inl rfl | exact .inr rfl) (fun z => nomatch z)) (b := lp__law_dict_1) (sb_one (ss_if (et_isNot (ev_ix rfl (ev_var (pv 1)) (ev_var (pv 3))) (EO.v (eo_non))) (sb_one (ss_app (pv 2) (eo_tupM (em_o (eo_call (ok__law_codes T) tk (hr.mono (by decide)) rfl T.m__law_codes T.f__law_codes.kp T.i__law_codes (ea_v (ev_ix rfl (ev_var (pv 0)) (ev_var (pv 3))) (ea_nil))) (em_v (ev_ix rfl (ev_var (pv 1)) (ev_var (pv 3))) (em_nil)))))) (sb_nil)))) (sb_one (ss_retT (fun _ _ z => nomatch z) (em_o (eo_str) (em_o (eo_T call_tuple_of says_tuple rfl T.z_tuple bb_tuple (ea_v (ev_var (pv 2)) (ea_nil))) (em_nil))))))
theorem ok__law_cell (T : Txt K mg A) : FnOk P w K mg base (L2.CX P w) 1 A.a__law_cell A.fd__law_cell ["_law_script", "_law_k"] (spD (kx K) (ec A) 2 d__law_cell) := by
  refine fn_ok 0 2 2 (kx K) (ec A) rfl rfl T.f__law_cell sc__law_cell (b := b__law_cell) fun cdv A' outer s H Ew He F0 v0 W hr tk hp => ?_
  exact sb_cons (ss_if (et_lt (ev_var (pv 1)) (EO.v (eo_B call_len says_len rfl T.z_len bb_len (ea_v (ev_var (pv 0)) (ea_nil))))) (sb_one (ss_ret (eo_T call_int1 says_int rfl T.z_int bb_int (ea_v (ev_ix rfl (ev_var (pv 0)) (ev_var (pv 1))) (ea_nil))))) (sb_nil)) (sb_one (ss_ret (eo_int)))
theorem ok__law_name (T : Txt K mg A) : FnOk P w K mg base (L2.CX P w) 2 A.a__law_name A.fd__law_name ["_law_text_here"] (spD (kx K) (ec A) 1 d__law_name) := by
  refine fn_ok 1 1 1 (kx K) (ec A) rfl rfl T.f__law_name sc__law_name (b := b__law_name) fun cdv A' outer s H Ew He F0 v0 W hr tk hp => ?_
  exact sb_one (ss_retT (fun _ _ z => nomatch z) (em_o (eo_str) (em_o (eo_call (ok__law_codes T) tk (hr.mono (by decide)) rfl T.m__law_codes T.f__law_codes.kp T.i__law_codes (ea_v (ev_var (pv 0)) (ea_nil))) (em_nil))))
theorem ok__law_property (T : Txt K mg A) : FnOk P w K mg base (L2.CX P w) 3 A.a__law_property A.fd__law_property ["_law_cell_here", "_law_kind"] (spD (kx K) (ec A) 2 d__law_property) := by
  refine fn_ok 2 2 5 (kx K) (ec A) rfl rfl T.f__law_property sc__law_property (b := b__law_property) fun cdv A' outer s H Ew He F0 v0 W hr tk hp => ?_
  exact sb_cons (ss_asg sc__law_property.nd rfl (by first | exact .inl rfl | exact .inr rfl) (fun z => nomatch z) (eo_mod (ev_var (pv 0)) (EO.v (eo_int)))) (sb_cons (ss_asg sc__law_property.nd rfl (by first | exact .inl rfl | exact .inr rfl) (fun z => nomatch z) (eo_div (ev_var (pv 0)) (EO.v (eo_int)))) (sb_cons (ss_if (et_eq rfl hr.units (ev_var (pv 2)) (EO.v (eo_int))) (sb_one (ss_ret (eo_non))) (sb_nil)) (sb_cons (ss_if (et_eq rfl hr.units (ev_var (pv 2)) (EO.v (eo_int))) (sb_one (ss_ret (EV.o (ev_ix rfl (EO.v (eo_lst (ea_o (eo_tup (ea_o (eo_str) (ea_nil))) (ea_o (eo_tup (ea_o (eo_str) (ea_o (eo_tup (ea_o (eo_int) (ea_nil))) (ea_nil)))) (ea_o (eo_tup (ea_o (eo_str) (ea_o (eo_int) (ea_nil)))) (ea_o (eo_tup (ea_o (eo_str) (ea_o (eo_int) (ea_nil)))) (ea_nil))))))) (EO.v (eo_mod (ev_var (pv 3)) (EO.v (eo_int)))))))) (sb_nil)) (sb_cons (ss_if (et_eq rfl hr.units (ev_var (pv 1)) (EO.v (eo_int))) (sb_one (ss_ret (eo_call (ok__law_name T) tk (hr.mono (by decide)) rfl T.m__law_name T.f__law_name.kp T.i__law_name (ea_v (ev_ix rfl (EO.v (eo_lst (ea_o (eo_str) (ea_o (eo_str) (ea_o (eo_str) (ea_o (eo_str) (ea_nil))))))) (EO.v (eo_mod (ev_var (pv 3)) (EO.v (eo_int))))) (ea_nil))))) (sb_nil)) (sb_cons (ss_if (et_eq rfl hr.units (ev_var (pv 1)) (EO.v (eo_int))) (sb_one (ss_ret (eo_call (ok__law_name T) tk (hr.mono (by decide)) rfl T.m__law_name T.f__law_name.kp T.i__law_name (ea_v (ev_ix rfl (EO.v (eo_lst (ea_o (eo_str) (ea_o (eo_str) (ea_o (eo_str) (ea_o (eo_str) (ea_nil))))))) (EO.v (eo_mod (ev_var (pv 3)) (EO.v (eo_int))))) (ea_nil))))) (sb_nil)) (sb_cons (ss_asg sc__law_property.nd rfl (by first | exact .inl rfl | exact .inr rfl) (fun z => nomatch z) (eo_tupM (em_o (eo_str) (em_v (ev_ix rfl (EO.v (eo_lst (ea_o (eo_mod (ev_var (pv 3)) (EO.v (eo_int))) (ea_o (eo_mod (EO.v (eo_neg (ev_var (pv 3)))) (EO.v (eo_int))) (ea_o (eo_mod (ev_var (pv 3)) (EO.v (eo_int))) (ea_o (eo_int) (ea_o (eo_neg (EO.v (eo_int))) (ea_o (eo_int) (ea_nil))))))))) (EO.v (eo_mod (EO.v (eo_div (ev_var (pv 3)) (EO.v (eo_int)))) (EO.v (eo_int))))) (em_nil))))) (sb_cons (ss_if (et_eq rfl hr.units (ev_var (pv 2)) (EO.v (eo_int))) (sb_one (ss_retT (fun _ _ z => nomatch z) (em_o (eo_str) (em_o (eo_add (EO.v (eo_int)) (ev_var (pv 1))) (em_nil))))) (sb_nil)) (sb_one (ss_retV (i := 4) (fun z => nomatch z) (pv 4))))))))))
theorem ok__law_twice (T : Txt K mg A) : FnOk P w K mg base (L2.CX P w) 1 A.a__law_twice A.fd__law_twice ["_law_cell_here", "_law_k"] (spD (kx K) (ec A) 2 d__law_twice) := by
  refine fn_ok 0 2 3 (kx K) (ec A) rfl rfl T.f__law_twice sc__law_twice (b := b__law_twice) fun cdv A' outer s H Ew He F0 v0 W hr tk hp => ?_
  exact sb_cons (ss_asg sc__law_twice.nd rfl (by first | exact .inl rfl | exact .inr rfl) (fun z => nomatch z) (eo_mod (EO.v (eo_T call_int1 says_int rfl T.z_int bb_int (ea_v (EO.v (eo_add (EO.v (eo_add (EO.v (eo_mul (ev_var (pv 0)) (EO.v (eo_int)))) (EO.v (eo_mul (ev_var (pv 1)) (EO.v (eo_int)))))) (EO.v (eo_int)))) (ea_nil)))) (EO.v (eo_int)))) (sb_cons (ss_asg sc__law_twice.nd rfl (by first | exact .inl rfl | exact .inr rfl) (fun z => nomatch z) (eo_mod (EO.v (eo_T call_int1 says_int rfl T.z_int bb_int (ea_v (EO.v (eo_add (EO.v (eo_add (EO.v (eo_mul (ev_var (pv 2)) (ev_var (pv 2)))) (EO.v (eo_mul (ev_var (pv 1)) (EO.v (eo_int)))))) (EO.v (eo_int)))) (ea_nil)))) (EO.v (eo_int)))) (sb_cons (ss_asg sc__law_twice.nd rfl (by first | exact .inl rfl | exact .inr rfl) (fun z => nomatch z) (eo_mod (EO.v (eo_T call_int1 says_int rfl T.z_int bb_int (ea_v (EO.v (eo_add (EO.v (eo_add (EO.v (eo_mul (ev_var (pv 2)) (ev_var (pv 2)))) (EO.v (eo_mul (ev_var (pv 1)) (EO.v (eo_int)))))) (EO.v (eo_int)))) (ea_nil)))) (EO.v (eo_int)))) (sb_one (ss_ret (eo_div (ev_var (pv 2)) (EO.v (eo_int)))))))
theorem ok__law_styles (T : Txt K mg A) : FnOk P w K mg base (L2.CX P w) 4 A.a__law_styles A.fd__law_styles ["_law_script"] (spD (kx K) (ec A) 1 d__law_styles) := by
  refine fn_ok 3 1 10 (kx K) (ec A) rfl rfl T.f__law_styles sc__law_styles (b := b__law_styles) fun cdv A' outer s H Ew He F0 v0 W hr tk hp => ?_
  exact sb_cons (ss_asg sc__law_styles.nd rfl (by first | exact .inl rfl | exact .inr rfl) (fun z => nomatch z) (eo_lstM (em_o (eo_str) (em_o (eo_str) (em_o (eo_str) (em_o (eo_str) (em_nil))))))) (sb_cons (ss_asg sc__law_styles.nd rfl (by first | exact .inl rfl | exact .inr rfl) (fun z => nomatch z) (eo_lstM (em_nil))) (sb_cons (ss_for hp rfl (ei_rng1 rfl T.z_range (ea_v (EO.v (eo_int)) (ea_nil))) (eg_name sc__law_styles.nd rfl (by first | exact .inl rfl | exact .inr rfl) (fun z => nomatch z)) (b := lp__law_styles_1) (sb_cons (ss_asg sc__law_styles.nd rfl (by first | exact .inl rfl | exact .inr rfl) (fun z => nomatch z) (eo_B call_abs says_abs rfl T.z_abs bb_abs (ea_v (EO.v (eo_call (ok__law_cell T) tk (hr.mono (by decide)) rfl T.m__law_cell T.f__law_cell.kp T.i__law_cell (ea_v (ev_var (pv 0)) (ea_o (eo_add (EO.v (eo_int)) (ev_var (pv 3))) (ea_nil))))) (ea_nil)))) (sb_cons (ss_asg sc__law_styles.nd rfl (by first | exact .inl rfl | exact .inr rfl) (fun z => nomatch z) (eo_lstM (em_nil))) (sb_cons (ss_for hp rfl (ei_rng1 rfl T.z_range (ea_v (EO.v (eo_int)) (ea_nil))) (eg_name sc__law_styles.nd rfl (by first | exact .inl rfl | exact .inr rfl) (fun z => nomatch z)) (b := lp__law_styles_2) (sb_one (ss_app (pv 5) (eo_call (ok__law_property T) tk (hr.mono (by decide)) rfl T.m__law_property T.f__law_property.kp T.i__law_property (ea_o (eo_call (ok__law_twice T) tk (hr.mono (by decide)) rfl T.m__law_twice T.f__law_twice.kp T.i__law_twice (ea_v (ev_var (pv 4)) (ea_v (ev_var (pv 6)) (ea_nil)))) (ea_v (ev_ix rfl (EO.v (eo_lst (ea_o (eo_int) (ea_o (eo_int) (ea_o (eo_int) (ea_o (eo_int) (ea_o (eo_int) (ea_o (eo_int) (ea_o (eo_int) (ea_nil)))))))))) (ev_var (pv 6))) (ea_nil))))))) (sb_cons (ss_asg sc__law_styles.nd rfl (by first | exact .inl rfl | exact .inr rfl) (fun z => nomatch z) (EV.o (ev_ix rfl (EO.vz (eo_lst (ea_o (eo_non) (ea_o (eo_call (ok__law_name T) tk (hr.mono (by decide)) rfl T.m__law_name T.f__law_name.kp T.i__law_name (ea_v (ev_ix rfl (ev_var (pv 1)) (EO.v (eo_mod (EO.v (eo_call (ok__law_twice T) tk (hr.mono (by decide)) rfl T.m__law_twice T.f__law_twice.kp T.i__law_twice (ea_v (ev_var (pv 4)) (ea_o (eo_int) (ea_nil))))) (EO.v (eo_int))))) (ea_nil))) (ea_o (eo_call (ok__law_name T) tk (hr.mono (by decide)) rfl T.m__law_name T.f__law_name.kp T.i__law_name (ea_o (eo_str) (ea_nil))) (ea_o (eo_call (ok__law_name T) tk (hr.mono (by decide)) rfl T.m__law_name T.f__law_name.kp T.i__law_name (ea_o (eo_str) (ea_nil))) (ea_o (eo_tup (ea_o (eo_str) (ea_o (eo_int) (ea_nil)))) (ea_nil)))))))) (EO.v (eo_mod (ev_var (pv 4)) (EO.v (eo_int))))))) (sb_cons (ss_if (et_eq rfl hr.units (EO.v (eo_mod (EO.v (eo_div (ev_var (pv 4)) (EO.v (eo_int)))) (EO.v (eo_int)))) (EO.v (eo_int))) (sb_one (ss_asg sc__law_styles.nd rfl (by first | exact .inl rfl | exact .inr rfl) (fun z => nomatch z) (eo_call (ok__law_name T) tk (hr.mono (by decide)) rfl T.m__law_name T.f__law_name.kp T.i__law_name (ea_v (ev_ix rfl (ev_var (pv 1)) (EO.v (eo_mod (EO.v (eo_add (ev_var (pv 3)) (EO.v (eo_int)))) (EO.v (eo_int))))) (ea_nil))))) (sb_nil)) (sb_cons (ss_fz 7 (fun z => nomatch z) (ss_asg sc__law_styles.nd rfl (by first | exact .inl rfl | exact .inr rfl) (fun z => nomatch z) (eo_call (ok__law_dict T) tk (hr.mono (by decide)) rfl T.m__law_dict T.f__law_dict.kp T.i__law_dict (ea_o (eo_lst (ea_o (eo_str) (ea_o (eo_str) (ea_o (eo_str) (ea_o (eo_str) (ea_o (eo_str) (ea_o (eo_str) (ea_o (eo_str) (ea_o (eo_str) (ea_nil)))))))))) (ea_o (eo_add (ev_var (pv 5)) (EO.v (eo_lst (ea_v (ev_var (pv 7)) (ea_nil))))) (ea_nil)))))) (sb_cons (ss_if (et_eq rfl hr.units (EO.v (eo_mod (EO.v (eo_div (ev_var (pv 4)) (EO.v (eo_int)))) (EO.v (eo_int)))) (EO.v (eo_int))) (sb_one (ss_asg sc__law_styles.nd rfl (by first | exact .inl rfl | exact .inr rfl) (fun z => nomatch z) (eo_tupM (em_o (eo_str) (em_o (eo_tupM (em_nil)) (em_nil)))))) (sb_nil)) (sb_one (ss_fz 8 (fun z => nomatch z) (ss_app (pv 2) (eo_tupM (em_v (ev_ix rfl (ev_var (pv 1)) (ev_var (pv 3))) (em_v (ev_var (pv 8)) (em_nil))))))))))))))) (sb_cons (ss_for hp rfl (ei_rng1 rfl T.z_range (ea_v (EO.v (eo_int)) (ea_nil))) (eg_name sc__law_styles.nd rfl (by first | exact .inl rfl | exact .inr rfl) (fun z => nomatch z)) (b := lp__law_styles_3) (sb_cons (ss_asg sc__law_styles.nd rfl (by first | exact .inl rfl | exact .inr rfl) (fun z => nomatch z) (eo_non)) (sb_cons (ss_if (et_eq rfl hr.units (ev_var (pv 3)) (EO.v (eo_mod (EO.v (eo_B call_abs says_abs rfl T.z_abs bb_abs (ea_v (EO.v (eo_call (ok__law_cell T) tk (hr.mono (by decide)) rfl T.m__law_cell T.f__law_cell.kp T.i__law_cell (ea_v (ev_var (pv 0)) (ea_o (eo_int) (ea_nil))))) (ea_nil)))) (EO.v (eo_int))))) (sb_one (ss_asg sc__law_styles.nd rfl (by first | exact .inl rfl | exact .inr rfl) (fun z => nomatch z) (eo_tupM (em_o (eo_str) (em_o (eo_int) (em_nil)))))) (sb_nil)) (sb_one (ss_fz 9 (fun z => nomatch z) (ss_app (pv 2) (eo_tupM (em_o (eo_add (EO.v (eo_str)) (EO.v (eo_T call_str_int says_str rfl T.z_str bb_str (ea_v (ev_var (pv 3)) (ea_nil))))) (em_o (eo_call (ok__law_dict T) tk (hr.mono (by decide)) rfl T.m__law_dict T.f__law_dict.kp T.i__law_dict (ea_o (eo_lst (ea_o (eo_str) (ea_o (eo_str) (ea_nil)))) (ea_o (eo_lst (ea_o (eo_call (ok__law_name T) tk (hr.mono (by decide)) rfl T.m__law_name T.f__law_name.kp T.i__law_name (ea_o (eo_add (EO.v (eo_str)) (EO.v (eo_T call_str_int says_str rfl T.z_str bb_str (ea_v (EO.v (eo_add (ev_var (pv 3)) (EO.v (eo_int)))) (ea_nil))))) (ea_nil))) (ea_v (ev_var (pv 9)) (ea_nil)))) (ea_nil)))) (em_nil)))))))))) (sb_one (ss_retV (i := 2) (fun z => nomatch z) (pv 2))))))
theorem ok__law_book (T : Txt K mg A) : FnOk P w K mg base (L2.CX P w) 3 A.a__law_book A.fd__law_book ["_law_rows"] (spD (kx K) (ec A) 1 d__law_book) := by
  refine fn_ok 2 1 5 (kx K) (ec A) rfl rfl T.f__law_book sc__law_book (b := b__law_book) fun cdv A' outer s H Ew He F0 v0 W hr tk hp => ?_
  exact sb_cons (ss_asg sc__law_book.nd rfl (by first | exact .inl rfl | exact .inr rfl) (fun z => nomatch z) (eo_call (ok__law_dict T) tk (hr.mono (by decide)) rfl T.m__law_dict T.f__law_dict.kp T.i__law_dict (ea_o (eo_lc (own := [("_law_row", 4)]) rfl sc__law_book.nd (ei_w rfl (ev_var (pv 0))) (by show blkC ["_law_rows", "_law_styles_here", "_law_objects", "_law_k", "_law_row"] (defScope s__law_book) _ _ = true; decide +kernel) (fun _ _ _ _ _ => egw_name (by decide) sc__law_book.nd rfl (by first | exact .inl rfl | exact .inr rfl) (fun z => nomatch z)) (fun _ _ _ _ _ tk => ets_nil) (fun _ _ _ _ _ tk => EV.o (ev_ix rfl (ev_var (pv 4)) (EO.v (eo_int)))) (fun _ _ z => nomatch z)) (ea_o (eo_lc (own := [("_law_row", 4)]) rfl sc__law_book.nd (ei_w rfl (ev_var (pv 0))) (by show blkC ["_law_rows", "_law_styles_here", "_law_objects", "_law_k", "_law_row"] (defScope s__law_book) _ _ = true; decide +kernel) (fun _ _ _ _ _ => egw_name (by decide) sc__law_book.nd rfl (by first | exact .inl rfl | exact .inr rfl) (fun z => nomatch z)) (fun _ _ _ _ _ tk => ets_nil) (fun _ _ _ _ _ tk => EV.o (ev_ix rfl (ev_var (pv 4)) (EO.v (eo_int)))) (fun _ _ z => nomatch z)) (ea_nil))))) (sb_cons (ss_fz 1 (fun z => nomatch z) (ss_asg sc__law_book.nd rfl (by first | exact .inl rfl | exact .inr rfl) (fun z => nomatch z) (eo_lstM (em_o (eo_tupM (em_o (eo_int) (em_o (eo_call (ok__law_dict T) tk (hr.mono (by decide)) rfl T.m__law_dict T.f__law_dict.kp T.i__law_dict (ea_o (eo_lst (ea_o (eo_str) (ea_o (eo_str) (ea_nil)))) (ea_o (eo_lst (ea_v (ev_var (pv 1)) (ea_o (eo_tup (ea_o (eo_str) (ea_o (eo_tup (ea_nil)) (ea_nil)))) (ea_nil)))) (ea_nil)))) (em_nil)))) (em_nil))))) (sb_cons (ss_for hp rfl (ei_rng2 rfl T.z_range (ea_v (EO.v (eo_int)) (ea_v (EO.v (eo_int)) (ea_nil)))) (eg_name sc__law_book.nd rfl (by first | exact .inl rfl | exact .inr rfl) (fun z => nomatch z)) (b := lp__law_book_1) (sb_one (ss_app (pv 2) (eo_tupM (em_o (eo_add (EO.v (eo_int)) (ev_var (pv 3))) (em_o (eo_tupM (em_o (eo_str) (em_o (eo_sub (EO.v (eo_mul (EO.v (eo_int)) (ev_var (pv 3)))) (EO.v (eo_int))) (em_nil)))) (em_nil))))))) (sb_one (ss_retT (fun _ _ z => nomatch z) (em_o (eo_T call_tuple_of says_tuple rfl T.z_tuple bb_tuple (ea_v (ev_var (pv 2)) (ea_nil))) (em_o (eo_int) (em_nil)))))))
theorem ok_spend (T : Txt K mg A) : FnOk P w K mg base (L2.CX P w) 1 A.a_spend A.fd_spend ["left", "cost"] (spD (kx K) (ec A) 2 d_spend) := by
  refine fn_ok 0 2 2 (kx K) (ec A) rfl rfl T.f_spend sc_spend (b := b_spend) fun cdv A' outer s H Ew He F0 v0 W hr tk hp => ?_
  exact sb_cons (ss_asg sc_spend.nd rfl (by first | exact .inl rfl | exact .inr rfl) (fun z => nomatch z) (eo_B (call_max2 rfl) says_max2 rfl T.z_max bb_max (ea_v (ev_var (pv 1)) (ea_v (EO.v (eo_int)) (ea_nil))))) (sb_cons (ss_if (et_gt (ev_var (pv 1)) (ev_var (pv 0))) (sb_one (ss_retT (fun _ _ z => nomatch z) (em_o (eo_int) (em_o (eo_bl) (em_nil))))) (sb_nil)) (sb_one (ss_retT (fun _ _ z => nomatch z) (em_o (eo_sub (ev_var (pv 0)) (ev_var (pv 1))) (em_o (eo_bl) (em_nil))))))
theorem ok_find (T : Txt K mg A) : FnOk P w K mg base (L2.CX P w) 1 A.a_find A.fd_find ["book", "number"] (spD (kx K) (ec A) 2 d_find) := by
  refine fn_ok 0 2 4 (kx K) (ec A) rfl rfl T.f_find sc_find (b := b_find) fun cdv A' outer s H Ew He F0 v0 W hr tk hp => ?_
  exact sb_cons (ss_for hp rfl (ei_w rfl (ev_ix rfl (ev_var (pv 0)) (EO.v (eo_int)))) (eg_tup rfl rfl (egs_cons (eg_name sc_find.nd rfl (by first | exact .inl rfl | exact .inr rfl) (fun z => nomatch z)) (egs_cons (eg_name sc_find.nd rfl (by first | exact .inl rfl | exact .inr rfl) (fun z => nomatch z)) (egs_nil))) 2 (gsCons_len (gsCons_len (gsNil_len)))) (b := lp_find_1) (sb_one (ss_if (et_eq rfl hr.units (ev_var (pv 2)) (ev_var (pv 1))) (sb_one (ss_retV (i := 3) (fun z => nomatch z) (pv 3))) (sb_nil)))) (sb_one (ss_ret (eo_non)))
theorem ok_follow (T : Txt K mg A) : FnOk P w K mg base (L2.CX P w) 2 A.a_follow A.fd_follow ["book", "value", "left"] (spD (kx K) (ec A) 3 d_follow) := by
  refine fn_ok 1 3 5 (kx K) (ec A) rfl rfl T.f_follow sc_follow (b := b_follow) fun cdv A' outer s H Ew He F0 v0 W hr tk hp => ?_
  exact sb_cons (ss_for hp rfl (ei_rng1 rfl T.z_range (ea_v (EO.v (eo_g rfl T.g_MOST_STEPS)) (ea_nil))) (eg_name sc_follow.nd rfl (by first | exact .inl rfl | exact .inr rfl) (fun z => nomatch z)) (b := lp_follow_1) (sb_cons (ss_if (EW.t (ew_or (et_is (ev_var (pv 1)) (EO.v (eo_non))) (ew_or1 (et_ne rfl hr.units (ev_ix rfl (ev_var (pv 1)) (EO.v (eo_int))) (EO.v (eo_str)))))) (sb_one (ss_retT (fun _ _ z => nomatch z) (em_m (i := 1) (by decide) (pv 1) (em_m (i := 2) (by decide) (pv 2) (em_nil))))) (sb_nil)) (sb_cons (ss_unO (eo_call (ok_spend T) tk (hr.mono (by decide)) rfl T.m_spend T.f_spend.kp T.i_spend (ea_v (ev_var (pv 2)) (ea_o (eo_int) (ea_nil)))) (eg_tup rfl rfl (egs_cons (eg_name sc_follow.nd rfl (by first | exact .inl rfl | exact .inr rfl) (fun z => nomatch z)) (egs_cons (eg_name sc_follow.nd rfl (by first | exact .inl rfl | exact .inr rfl) (fun z => nomatch z)) (egs_nil))) 2 (gsCons_len (gsCons_len (gsNil_len))))) (sb_cons (ss_if (et_not (et_tru rfl (ev_var (pv 4)))) (sb_one (ss_retT (fun _ _ z => nomatch z) (em_o (eo_non) (em_m (i := 2) (by decide) (pv 2) (em_nil))))) (sb_nil)) (sb_one (ss_asg sc_follow.nd rfl (by first | exact .inl rfl | exact .inr rfl) (fun z => nomatch z) (eo_call (ok_find T) tk (hr.mono (by decide)) rfl T.m_find T.f_find.kp T.i_find (ea_v (ev_var (pv 0)) (ea_v (ev_ix rfl (ev_var (pv 1)) (EO.v (eo_int))) (ea_nil)))))))))) (sb_cons (ss_if (EW.t (ew_or (et_is (ev_var (pv 1)) (EO.v (eo_non))) (ew_or1 (et_ne rfl hr.units (ev_ix rfl (ev_var (pv 1)) (EO.v (eo_int))) (EO.v (eo_str)))))) (sb_one (ss_retT (fun _ _ z => nomatch z) (em_m (i := 1) (by decide) (pv 1) (em_m (i := 2) (by decide) (pv 2) (em_nil))))) (sb_nil)) (sb_one (ss_retT (fun _ _ z => nomatch z) (em_o (eo_non) (em_m (i := 2) (by decide) (pv 2) (em_nil))))))
theorem ok_look (T : Txt K mg A) : FnOk P w K mg base (L2.CX P w) 3 A.a_look A.fd_look ["book", "value"] (spD (kx K) (ec A) 2 d_look) := by
  refine fn_ok 2 2 4 (kx K) (ec A) rfl rfl T.f_look sc_look (b := b_look) fun cdv A' outer s H Ew He F0 v0 W hr tk hp => ?_
  exact sb_cons (ss_unO (eo_call (ok_follow T) tk (hr.mono (by decide)) rfl T.m_follow T.f_follow.kp T.i_follow (ea_v (ev_var (pv 0)) (ea_v (ev_var (pv 1)) (ea_o (eo_g rfl T.g_ENOUGH) (ea_nil))))) (eg_tup rfl rfl (egs_cons (eg_name sc_look.nd rfl (by first | exact .inl rfl | exact .inr rfl) (fun z => nomatch z)) (egs_cons (eg_name sc_look.nd rfl (by first | exact .inl rfl | exact .inr rfl) (fun z => nomatch z)) (egs_nil))) 2 (gsCons_len (gsCons_len (gsNil_len))))) (sb_one (ss_ret (EV.o (ev_if (et_is (ev_var (pv 2)) (EO.v (eo_non))) (EO.v (eo_g rfl T.g_NONE)) (ev_var (pv 2))))))
theorem ok_get (T : Txt K mg A) : FnOk P w K mg base (L2.CX P w) 1 A.a_get A.fd_get ["value", "key"] (spD (kx K) (ec A) 2 d_get) := by
  refine fn_ok 0 2 6 (kx K) (ec A) rfl rfl T.f_get sc_get (b := b_get) fun cdv A' outer s H Ew He F0 v0 W hr tk hp => ?_
  exact sb_cons (ss_if (EW.t (ew_or (et_is (ev_var (pv 0)) (EO.v (eo_non))) (ew_or1 (et_notIn rfl (room65 hr) (ev_ix rfl (ev_var (pv 0)) (EO.v (eo_int))) (EO.v (eo_tup (ea_o (eo_str) (ea_o (eo_str) (ea_nil))))))))) (sb_one (ss_ret (eo_non))) (sb_nil)) (sb_cons (ss_asg sc_get.nd rfl (by first | exact .inl rfl | exact .inr rfl) (fun z => nomatch z) (eo_T call_tuple_of says_tuple rfl T.z_tuple bb_tuple (ea_v (EO.v (eo_lc (own := [("sign", 5)]) rfl sc_get.nd (ei_w rfl (ev_var (pv 1))) (by show blkC ["value", "key", "codes", "one", "found", "sign"] (defScope s_get) _ _ = true; decide +kernel) (fun _ _ _ _ _ => egw_name (by decide) sc_get.nd rfl (by first | exact .inl rfl | exact .inr rfl) (fun z => nomatch z)) (fun _ _ _ _ _ tk => ets_nil) (fun _ _ _ _ _ tk => eo_B call_ord says_ord rfl T.z_ord bb_ord (ea_v (ev_var (pv 5)) (ea_nil))) (fun _ _ z => nomatch z))) (ea_nil)))) (sb_cons (ss_for hp rfl (ei_w rfl (ev_ix rfl (ev_var (pv 0)) (EO.v (eo_int)))) (eg_tup rfl rfl (egs_cons (eg_name sc_get.nd rfl (by first | exact .inl rfl | exact .inr rfl) (fun z => nomatch z)) (egs_cons (eg_name sc_get.nd rfl (by first | exact .inl rfl | exact .inr rfl) (fun z => nomatch z)) (egs_nil))) 2 (gsCons_len (gsCons_len (gsNil_len)))) (b := lp_get_1) (sb_one (ss_if (et_eq rfl hr.units (ev_var (pv 3)) (ev_var (pv 2))) (sb_one (ss_retV (i := 4) (fun z => nomatch z) (pv 4))) (sb_nil)))) (sb_one (ss_ret (eo_non)))))
theorem ok_key (T : Txt K mg A) : FnOk P w K mg base (L2.CX P w) 4 A.a_key A.fd_key ["book", "value", "name"] (spD (kx K) (ec A) 3 d_key) := by
  refine fn_ok 3 3 3 (kx K) (ec A) rfl rfl T.f_key sc_key (b := b_key) fun cdv A' outer s H Ew He F0 v0 W hr tk hp => ?_
  exact sb_one (ss_ret (eo_call (ok_look T) tk (hr.mono (by decide)) rfl T.m_look T.f_look.kp T.i_look (ea_v (ev_var (pv 0)) (ea_o (eo_call (ok_get T) tk (hr.mono (by decide)) rfl T.m_get T.f_get.kp T.i_get (ea_v (ev_var (pv 1)) (ea_v (ev_var (pv 2)) (ea_nil)))) (ea_nil)))))
theorem ok_root_of (T : Txt K mg A) : FnOk P w K mg base (L2.CX P w) 4 A.a_root_of A.fd_root_of ["book"] (spD (kx K) (ec A) 1 d_root_of) := by
  refine fn_ok 3 1 1 (kx K) (ec A) rfl rfl T.f_root_of sc_root_of (b := b_root_of) fun cdv A' outer s H Ew He F0 v0 W hr tk hp => ?_
  exact sb_one (ss_ret (eo_call (ok_look T) tk (hr.mono (by decide)) rfl T.m_look T.f_look.kp T.i_look (ea_v (ev_var (pv 0)) (ea_o (eo_call (ok_find T) tk (hr.mono (by decide)) rfl T.m_find T.f_find.kp T.i_find (ea_v (ev_var (pv 0)) (ea_v (ev_ix rfl (ev_var (pv 0)) (EO.v (eo_int))) (ea_nil)))) (ea_nil)))))
theorem ok_key_of_bytes (T : Txt K mg A) : FnOk P w K mg base (L2.CX P w) 4 A.a_key_of_bytes A.fd_key_of_bytes ["book", "value", "data"] (spD (kx K) (ec A) 3 d_key_of_bytes) := by
  refine fn_ok 3 3 5 (kx K) (ec A) rfl rfl T.f_key_of_bytes sc_key_of_bytes (b := b_key_of_bytes) fun cdv A' outer s H Ew He F0 v0 W hr tk hp => ?_
  exact sb_cons (ss_if (et_in rfl (room65 hr) (ev_ix rfl (ev_var (pv 1)) (EO.v (eo_int))) (EO.v (eo_tup (ea_o (eo_str) (ea_o (eo_str) (ea_nil)))))) (sb_one (ss_for hp rfl (ei_w rfl (ev_ix rfl (ev_var (pv 1)) (EO.v (eo_int)))) (eg_tup rfl rfl (egs_cons (eg_name sc_key_of_bytes.nd rfl (by first | exact .inl rfl | exact .inr rfl) (fun z => nomatch z)) (egs_cons (eg_name sc_key_of_bytes.nd rfl (by first | exact .inl rfl | exact .inr rfl) (fun z => nomatch z)) (egs_nil))) 2 (gsCons_len (gsCons_len (gsNil_len)))) (b := lp_key_of_bytes_1) (sb_one (ss_if (et_eq rfl hr.units (ev_var (pv 3)) (ev_var (pv 2))) (sb_one (ss_ret (eo_call (ok_look T) tk (hr.mono (by decide)) rfl T.m_look T.f_look.kp T.i_look (ea_v (ev_var (pv 0)) (ea_v (ev_var (pv 4)) (ea_nil)))))) (sb_nil))))) (sb_nil)) (sb_one (ss_ret (eo_g rfl T.g_NONE)))
theorem ok_data_of (T : Txt K mg A) : FnOk P w K mg base (L2.CX P w) 1 A.a_data_of A.fd_data_of ["value", "kind"] (spD (kx K) (ec A) 2 d_data_of) := by
  refine fn_ok 0 2 2 (kx K) (ec A) rfl rfl T.f_data_of sc_data_of (b := b_data_of) fun cdv A' outer s H Ew He F0 v0 W hr tk hp => ?_
  exact sb_one (ss_ret (EV.o (ev_if (et_eq rfl hr.units (ev_ix rfl (ev_var (pv 0)) (EO.v (eo_int))) (ev_var (pv 1))) (ev_ix rfl (ev_var (pv 0)) (EO.v (eo_int))) (EO.v (eo_tup (ea_nil))))))
theorem ok_style_dicts (T : Txt K mg A) : FnOk P w K mg base (L2.CX P w) 5 A.a_style_dicts A.fd_style_dicts ["book", "name"] (spD (kx K) (ec A) 2 d_style_dicts) := by
  refine fn_ok 4 2 6 (kx K) (ec A) rfl rfl T.f_style_dicts sc_style_dicts (b := b_style_dicts) fun cdv A' outer s H Ew He F0 v0 W hr tk hp => ?_
  exact sb_cons (ss_asg sc_style_dicts.nd rfl (by first | exact .inl rfl | exact .inr rfl) (fun z => nomatch z) (eo_call (ok_key T) tk (hr.mono (by decide)) rfl T.m_key T.f_key.kp T.i_key (ea_v (ev_var (pv 0)) (ea_o (eo_call (ok_root_of T) tk (hr.mono (by decide)) rfl T.m_root_of T.f_root_of.kp T.i_root_of (ea_v (ev_var (pv 0)) (ea_nil))) (ea_o (eo_str) (ea_nil)))))) (sb_cons (ss_asg sc_style_dicts.nd rfl (by first | exact .inl rfl | exact .inr rfl) (fun z => nomatch z) (eo_lstM (em_nil))) (sb_cons (ss_asg sc_style_dicts.nd rfl (by first | exact .inl rfl | exact .inr rfl) (fun z => nomatch z) (eo_lstM (em_nil))) (sb_cons (ss_while hp (t := tw_style_dicts_1) (b := lp_style_dicts_1) (EW.t (ew_and (et_lt (EO.v (eo_B call_len says_len rfl T.z_len bb_len (ea_v (ev_var (pv 3)) (ea_nil)))) (EO.v (eo_g rfl T.g_MOST_STYLES))) (ew_and1 (et_notIn rfl (room65 hr) (ev_var (pv 1)) (ev_var (pv 4)))))) (sb_cons (ss_asg sc_style_dicts.nd rfl (by first | exact .inl rfl | exact .inr rfl) (fun z => nomatch z) (eo_call (ok_key_of_bytes T) tk (hr.mono (by decide)) rfl T.m_key_of_bytes T.f_key_of_bytes.kp T.i_key_of_bytes (ea_v (ev_var (pv 0)) (ea_v (ev_var (pv 2)) (ea_v (ev_var (pv 1)) (ea_nil)))))) (sb_cons (ss_if (et_ne rfl hr.units (ev_ix rfl (ev_var (pv 5)) (EO.v (eo_int))) (EO.v (eo_str))) (sb_one (ss_brk)) (sb_nil)) (sb_cons (ss_fz 5 (fun z => nomatch z) (ss_app (pv 3) (EV.o (ev_var (pv 5))))) (sb_cons (ss_fz 1 (fun z => nomatch z) (ss_app (pv 4) (EV.o (ev_var (pv 1))))) (sb_cons (ss_asg sc_style_dicts.nd rfl (by first | exact .inl rfl | exact .inr rfl) (fun z => nomatch z) (eo_call (ok_data_of T) tk (hr.mono (by decide)) rfl T.m_data_of T.f_data_of.kp T.i_data_of (ea_o (eo_call (ok_key T) tk (hr.mono (by decide)) rfl T.m_key T.f_key.kp T.i_key (ea_v (ev_var (pv 0)) (ea_v (ev_var (pv 5)) (ea_o (eo_str) (ea_nil))))) (ea_o (eo_str) (ea_nil))))) (sb_one (ss_if (et_eq rfl hr.units (ev_var (pv 1)) (EO.v (eo_tup (ea_nil)))) (sb_one (ss_brk)) (sb_nil))))))))) (sb_one (ss_retV (i := 3) (fun z => nomatch z) (pv 3))))))
theorem ok_first_integer (T : Txt K mg A) : FnOk P w K mg base (L2.CX P w) 5 A.a_first_integer A.fd_first_integer ["book", "dicts", "name", "low", "high"] (spD (kx K) (ec A) 5 d_first_integer) := by
  refine fn_ok 4 5 7 (kx K) (ec A) rfl rfl T.f_first_integer sc_first_integer (b := b_first_integer) fun cdv A' outer s H Ew He F0 v0 W hr tk hp => ?_
  exact sb_cons (ss_for hp rfl (ei_w rfl (ev_var (pv 1))) (eg_name sc_first_integer.nd rfl (by first | exact .inl rfl | exact .inr rfl) (fun z => nomatch z)) (b := lp_first_integer_1) (sb_cons (ss_asg sc_first_integer.nd rfl (by first | exact .inl rfl | exact .inr rfl) (fun z => nomatch z) (eo_call (ok_key T) tk (hr.mono (by decide)) rfl T.m_key T.f_key.kp T.i_key (ea_v (ev_var (pv 0)) (ea_v (ev_var (pv 5)) (ea_v (ev_var (pv 2)) (ea_nil)))))) (sb_one (ss_if (EW.t (ew_and (et_eq rfl hr.units (ev_ix rfl (ev_var (pv 6)) (EO.v (eo_int))) (EO.v (eo_str))) (ew_and1 (et_chain op_le says_cmp op_le says_cmp (by with_unfolding_all rfl) gCmp_bl (ev_var (pv 3)) (ev_ix rfl (ev_var (pv 6)) (EO.v (eo_int))) (ev_var (pv 4)))))) (sb_one (ss_ret (EV.o (ev_ix rfl (ev_var (pv 6)) (EO.v (eo_int)))))) (sb_nil))))) (sb_one (ss_ret (eo_non)))
theorem ok_first_name (T : Txt K mg A) : FnOk P w K mg base (L2.CX P w) 5 A.a_first_name A.fd_first_name ["book", "dicts", "name", "allowed"] (spD (kx K) (ec A) 4 d_first_name) := by
  refine fn_ok 4 4 6 (kx K) (ec A) rfl rfl T.f_first_name sc_first_name (b := b_first_name) fun cdv A' outer s H Ew He F0 v0 W hr tk hp => ?_
  exact sb_cons (ss_for hp rfl (ei_w rfl (ev_var (pv 1))) (eg_name sc_first_name.nd rfl (by first | exact .inl rfl | exact .inr rfl) (fun z => nomatch z)) (b := lp_first_name_1) (sb_cons (ss_asg sc_first_name.nd rfl (by first | exact .inl rfl | exact .inr rfl) (fun z => nomatch z) (eo_call (ok_key T) tk (hr.mono (by decide)) rfl T.m_key T.f_key.kp T.i_key (ea_v (ev_var (pv 0)) (ea_v (ev_var (pv 4)) (ea_v (ev_var (pv 2)) (ea_nil)))))) (sb_one (ss_if (EW.t (ew_and (et_eq rfl hr.units (ev_ix rfl (ev_var (pv 5)) (EO.v (eo_int))) (EO.v (eo_str))) (ew_and1 (EW.t (ew_or (et_is (ev_var (pv 3)) (EO.v (eo_non))) (ew_or1 (et_in rfl (room65 hr) (ev_ix rfl (ev_var (pv 5)) (EO.v (eo_int))) (ev_var (pv 3))))))))) (sb_one (ss_ret (EV.o (ev_ix rfl (ev_var (pv 5)) (EO.v (eo_int)))))) (sb_nil))))) (sb_one (ss_ret (eo_non)))
theorem ok_number_of (T : Txt K mg A) : FnOk P w K mg base (L2.CX P w) 1 A.a_number_of A.fd_number_of ["value", "low", "high", "other"] (spD (kx K) (ec A) 4 d_number_of) := by
  refine fn_ok 0 4 4 (kx K) (ec A) rfl rfl T.f_number_of sc_number_of (b := b_number_of) fun cdv A' outer s H Ew He F0 v0 W hr tk hp => ?_
  exact sb_cons (ss_if (et_ne rfl hr.units (ev_ix rfl (ev_var (pv 0)) (EO.v (eo_int))) (EO.v (eo_str))) (sb_one (ss_retV (i := 3) (fun z => nomatch z) (pv 3))) (sb_nil)) (sb_one (ss_ret (eo_B (call_max2 rfl) says_max2 rfl T.z_max bb_max (ea_v (ev_var (pv 1)) (ea_v (EO.v (eo_B (call_min2 rfl) says_min2 rfl T.z_min bb_min (ea_v (ev_var (pv 2)) (ea_v (ev_ix rfl (ev_var (pv 0)) (EO.v (eo_int))) (ea_nil))))) (ea_nil))))))
theorem ok_bounded (T : Txt K mg A) : FnOk P w K mg base (L2.CX P w) 5 A.a_bounded A.fd_bounded ["book", "dicts", "name", "low", "high", "other"] (spD (kx K) (ec A) 6 d_bounded) := by
  refine fn_ok 4 6 8 (kx K) (ec A) rfl rfl T.f_bounded sc_bounded (b := b_bounded) fun cdv A' outer s H Ew He F0 v0 W hr tk hp => ?_
  exact sb_cons (ss_for hp rfl (ei_w rfl (ev_var (pv 1))) (eg_name sc_bounded.nd rfl (by first | exact .inl rfl | exact .inr rfl) (fun z => nomatch z)) (b := lp_bounded_1) (sb_cons (ss_asg sc_bounded.nd rfl (by first | exact .inl rfl | exact .inr rfl) (fun z => nomatch z) (eo_call (ok_key T) tk (hr.mono (by decide)) rfl T.m_key T.f_key.kp T.i_key (ea_v (ev_var (pv 0)) (ea_v (ev_var (pv 6)) (ea_v (ev_var (pv 2)) (ea_nil)))))) (sb_one (ss_if (et_eq rfl hr.units (ev_ix rfl (ev_var (pv 7)) (EO.v (eo_int))) (EO.v (eo_str))) (sb_one (ss_ret (eo_call (ok_number_of T) tk (hr.mono (by decide)) rfl T.m_number_of T.f_number_of.kp T.i_number_of (ea_v (ev_var (pv 7)) (ea_v (ev_var (pv 3)) (ea_v (ev_var (pv 4)) (ea_v (ev_var (pv 5)) (ea_nil)))))))) (sb_nil))))) (sb_one (ss_retV (i := 5) (fun z => nomatch z) (pv 5)))
theorem ok_codes (T : Txt K mg A) : FnOk P w K mg base (L2.CX P w) 1 A.a_codes A.fd_codes ["text"] (spD (kx K) (ec A) 1 d_codes) := by
  refine fn_ok 0 1 2 (kx K) (ec A) rfl rfl T.f_codes sc_codes (b := b_codes) fun cdv A' outer s H Ew He F0 v0 W hr tk hp => ?_
  exact sb_one (ss_ret (eo_T call_tuple_of says_tuple rfl T.z_tuple bb_tuple (ea_v (EO.v (eo_lc (own := [("sign", 1)]) rfl sc_codes.nd (ei_w rfl (ev_var (pv 0))) (by show blkC ["text", "sign"] (defScope s_codes) _ _ = true; decide +kernel) (fun _ _ _ _ _ => egw_name (by decide) sc_codes.nd rfl (by first | exact .inl rfl | exact .inr rfl) (fun z => nomatch z)) (fun _ _ _ _ _ tk => ets_nil) (fun _ _ _ _ _ tk => eo_B call_ord says_ord rfl T.z_ord bb_ord (ea_v (ev_var (pv 1)) (ea_nil))) (fun _ _ z => nomatch z))) (ea_nil))))
theorem ok_style_of (T : Txt K mg A) : FnOk P w K mg base (L2.CX P w) 6 A.a_style_of A.fd_style_of ["book", "name"] (spD (kx K) (ec A) 2 d_style_of) := by
  refine fn_ok 5 2 7 (kx K) (ec A) rfl rfl T.f_style_of sc_style_of (b := b_style_of) fun cdv A' outer s H Ew He F0 v0 W hr tk hp => ?_
  exact sb_cons (ss_asg sc_style_of.nd rfl (by first | exact .inl rfl | exact .inr rfl) (fun z => nomatch z) (eo_call (ok_style_dicts T) tk (hr.mono (by decide)) rfl T.m_style_dicts T.f_style_dicts.kp T.i_style_dicts (ea_v (ev_var (pv 0)) (ea_v (ev_var (pv 1)) (ea_nil))))) (sb_cons (ss_asg sc_style_of.nd rfl (by first | exact .inl rfl | exact .inr rfl) (fun z => nomatch z) (eo_call (ok_first_integer T) tk (hr.mono (by decide)) rfl T.m_first_integer T.f_first_integer.kp T.i_first_integer (ea_v (ev_var (pv 0)) (ea_v (ev_var (pv 2)) (ea_o (eo_str) (ea_o (eo_int) (ea_o (eo_g rfl T.g_WHITEST) (ea_nil)))))))) (sb_cons (ss_asg sc_style_of.nd rfl (by first | exact .inl rfl | exact .inr rfl) (fun z => nomatch z) (eo_call (ok_first_integer T) tk (hr.mono (by decide)) rfl T.m_first_integer T.f_first_integer.kp T.i_first_integer (ea_v (ev_var (pv 0)) (ea_v (ev_var (pv 2)) (ea_o (eo_str) (ea_o (eo_int) (ea_o (eo_g rfl T.g_WHITEST) (ea_nil)))))))) (sb_cons (ss_asg sc_style_of.nd rfl (by first | exact .inl rfl | exact .inr rfl) (fun z => nomatch z) (eo_call (ok_first_name T) tk (hr.mono (by decide)) rfl T.m_first_name T.f_first_name.kp T.i_first_name (ea_v (ev_var (pv 0)) (ea_v (ev_var (pv 2)) (ea_o (eo_str) (ea_o (eo_lc (own := [("one", 6)]) rfl sc_style_of.nd (ei_o rfl (eo_g rfl T.g_ALIGNS)) (by show blkC ["book", "name", "dicts", "color", "back", "align", "one"] (defScope s_style_of) _ _ = true; decide +kernel) (fun _ _ _ _ _ => egw_name (by decide) sc_style_of.nd rfl (by first | exact .inl rfl | exact .inr rfl) (fun z => nomatch z)) (fun _ _ _ _ _ tk => ets_nil) (fun _ _ _ _ _ tk => eo_call (ok_codes T) tk (hr.mono (by decide)) rfl T.m_codes T.f_codes.kp T.i_codes (ea_v (ev_var (pv 6)) (ea_nil))) (fun _ _ z => nomatch z)) (ea_nil))))))) (sb_one (ss_retT (fun _ _ z => nomatch z) (em_o (eo_call (ok_first_name T) tk (hr.mono (by decide)) rfl T.m_first_name T.f_first_name.kp T.i_first_name (ea_v (ev_var (pv 0)) (ea_v (ev_var (pv 2)) (ea_o (eo_str) (ea_o (eo_non) (ea_nil)))))) (em_o (eo_call (ok_bounded T) tk (hr.mono (by decide)) rfl T.m_bounded T.f_bounded.kp T.i_bounded (ea_v (ev_var (pv 0)) (ea_v (ev_var (pv 2)) (ea_o (eo_str) (ea_o (eo_int) (ea_o (eo_int) (ea_o (eo_int) (ea_nil)))))))) (em_v (ev_if (et_is (ev_var (pv 3)) (EO.v (eo_non))) (EO.v (eo_int)) (ev_var (pv 3))) (em_v (ev_if (et_is (ev_var (pv 4)) (EO.v (eo_non))) (EO.v (eo_neg (EO.v (eo_int)))) (ev_var (pv 4))) (em_v (ev_if (et_is (ev_var (pv 5)) (EO.v (eo_non))) (ev_ix rfl (EO.v (eo_g rfl T.g_ALIGNS)) (EO.v (eo_int))) (ev_ix rfl (EO.v (eo_lc (own := [("one", 6)]) rfl sc_style_of.nd (ei_o rfl (eo_g rfl T.g_ALIGNS)) (by show blkC ["book", "name", "dicts", "color", "back", "align", "one"] (defScope s_style_of) _ _ = true; decide +kernel) (fun _ _ _ _ _ => egw_name (by decide) sc_style_of.nd rfl (by first | exact .inl rfl | exact .inr rfl) (fun z => nomatch z)) (fun _ _ _ _ _ tk => ets_one (et_eq rfl hr.units (EO.v (eo_call (ok_codes T) tk (hr.mono (by decide)) rfl T.m_codes T.f_codes.kp T.i_codes (ea_v (ev_var (pv 6)) (ea_nil)))) (ev_var (pv 5)))) (fun _ _ _ _ _ tk => EV.o (ev_var (pv 6))) (fun _ _ z => nomatch z))) (EO.v (eo_int)))) (em_o (eo_call (ok_bounded T) tk (hr.mono (by decide)) rfl T.m_bounded T.f_bounded.kp T.i_bounded (ea_v (ev_var (pv 0)) (ea_v (ev_var (pv 2)) (ea_o (eo_str) (ea_o (eo_int) (ea_o (eo_int) (ea_o (eo_int) (ea_nil)))))))) (em_o (eo_call (ok_bounded T) tk (hr.mono (by decide)) rfl T.m_bounded T.f_bounded.kp T.i_bounded (ea_v (ev_var (pv 0)) (ea_v (ev_var (pv 2)) (ea_o (eo_str) (ea_o (eo_int) (ea_o (eo_int) (ea_o (eo_int) (ea_nil)))))))) (em_nil)))))))))))))
theorem ok_colour_of (T : Txt K mg A) : FnOk P w K mg base (L2.CX P w) 1 A.a_colour_of A.fd_colour_of ["value", "other"] (spD (kx K) (ec A) 2 d_colour_of) := by
  refine fn_ok 0 2 2 (kx K) (ec A) rfl rfl T.f_colour_of sc_colour_of (b := b_colour_of) fun cdv A' outer s H Ew He F0 v0 W hr tk hp => ?_
  exact sb_cons (ss_if (EW.t (ew_or (et_ne rfl hr.units (ev_ix rfl (ev_var (pv 0)) (EO.v (eo_int))) (EO.v (eo_str))) (ew_or (et_lt (ev_ix rfl (ev_var (pv 0)) (EO.v (eo_int))) (EO.v (eo_int))) (ew_or1 (et_gt (ev_ix rfl (ev_var (pv 0)) (EO.v (eo_int))) (EO.v (eo_g rfl T.g_WHITEST))))))) (sb_one (ss_retV (i := 1) (fun z => nomatch z) (pv 1))) (sb_nil)) (sb_one (ss_ret (EV.o (ev_ix rfl (ev_var (pv 0)) (EO.v (eo_int))))))
theorem ok__law_look (T : Txt K mg A) : FnOk P w K mg base (L2.CX P w) 1 A.a__law_look A.fd__law_look ["_law_book_here", "_law_value"] (spD (kx K) (ec A) 2 d__law_look) := by
  refine fn_ok 0 2 5 (kx K) (ec A) rfl rfl T.f__law_look sc__law_look (b := b__law_look) fun cdv A' outer s H Ew He F0 v0 W hr tk hp => ?_
  exact sb_cons (ss_if (EW.t (ew_and (et_isNot (ev_var (pv 1)) (EO.v (eo_non))) (ew_and1 (et_eq rfl hr.units (ev_ix rfl (ev_var (pv 1)) (EO.v (eo_int))) (EO.v (eo_str)))))) (sb_cons (ss_setLc (own := [("_law_number", 3), ("_law_other", 4)]) rfl sc__law_look.nd rfl rfl (fun z => nomatch z) rfl rfl rfl (by decide +kernel) (ei_w rfl (ev_ix rfl (ev_var (pv 0)) (EO.v (eo_int)))) (by show blkC ["_law_book_here", "_law_value", "_law_hits", "_law_number", "_law_other"] (defScope s__law_look) _ _ = true; decide +kernel) (fun _ _ _ _ _ => egw_tup rfl rfl (egsw_cons (egw_name (by decide) sc__law_look.nd rfl (by first | exact .inl rfl | exact .inr rfl) (fun z => nomatch z)) (egsw_cons (egw_name (by decide) sc__law_look.nd rfl (by first | exact .inl rfl | exact .inr rfl) (fun z => nomatch z)) (egsw_nil))) 2 (gsCons_len (gsCons_len (gsNil_len)))) (fun _ _ _ _ _ tk => ets_one (et_eq rfl hr.units (ev_var (pv 3)) (ev_ix rfl (ev_var (pv 1)) (EO.v (eo_int))))) (fun _ _ _ _ _ tk => EV.o (ev_var (pv 4))) (fun _ _ z => nomatch z)) (sb_cons (ss_asg sc__law_look.nd rfl (by first | exact .inl rfl | exact .inr rfl) (fun z => nomatch z) (eo_non)) (sb_one (ss_if (et_gt (EO.v (eo_B call_len says_len rfl T.z_len bb_len (ea_v (ev_var (pv 2)) (ea_nil)))) (EO.v (eo_int))) (sb_one (ss_asg sc__law_look.nd rfl (by first | exact .inl rfl | exact .inr rfl) (fun z => nomatch z) (EV.o (ev_ix rfl (ev_var (pv 2)) (EO.v (eo_int)))))) (sb_nil))))) (sb_nil)) (sb_cons (ss_if (et_is (ev_var (pv 1)) (EO.v (eo_non))) (sb_one (ss_retT (fun _ _ z => nomatch z) (em_o (eo_str) (em_nil)))) (sb_nil)) (sb_one (ss_retV (i := 1) (fun z => nomatch z) (pv 1))))
theorem ok__law_get (T : Txt K mg A) : FnOk P w K mg base (L2.CX P w) 2 A.a__law_get A.fd__law_get ["_law_book_here", "_law_one", "_law_name_here"] (spD (kx K) (ec A) 3 d__law_get) := by
  refine fn_ok 1 3 5 (kx K) (ec A) rfl rfl T.f__law_get sc__law_get (b := b__law_get) fun cdv A' outer s H Ew He F0 v0 W hr tk hp => ?_
  exact sb_cons (ss_for hp rfl (ei_w rfl (ev_ix rfl (ev_var (pv 1)) (EO.v (eo_int)))) (eg_tup rfl rfl (egs_cons (eg_name sc__law_get.nd rfl (by first | exact .inl rfl | exact .inr rfl) (fun z => nomatch z)) (egs_cons (eg_name sc__law_get.nd rfl (by first | exact .inl rfl | exact .inr rfl) (fun z => nomatch z)) (egs_nil))) 2 (gsCons_len (gsCons_len (gsNil_len)))) (b := lp__law_get_1) (sb_one (ss_if (et_eq rfl hr.units (ev_var (pv 3)) (EO.v (eo_call (ok__law_codes T) tk (hr.mono (by decide)) rfl T.m__law_codes T.f__law_codes.kp T.i__law_codes (ea_v (ev_var (pv 2)) (ea_nil))))) (sb_one (ss_ret (eo_call (ok__law_look T) tk (hr.mono (by decide)) rfl T.m__law_look T.f__law_look.kp T.i__law_look (ea_v (ev_var (pv 0)) (ea_v (ev_var (pv 4)) (ea_nil)))))) (sb_nil)))) (sb_one (ss_retT (fun _ _ z => nomatch z) (em_o (eo_str) (em_nil))))
theorem ok__law_chain (T : Txt K mg A) : FnOk P w K mg base (L2.CX P w) 3 A.a__law_chain A.fd__law_chain ["_law_book_here", "_law_rows", "_law_name_here"] (spD (kx K) (ec A) 3 d__law_chain) := by
  refine fn_ok 2 3 10 (kx K) (ec A) rfl rfl T.f__law_chain sc__law_chain (b := b__law_chain) fun cdv A' outer s H Ew He F0 v0 W hr tk hp => ?_
  exact sb_cons (ss_asg sc__law_chain.nd rfl (by first | exact .inl rfl | exact .inr rfl) (fun z => nomatch z) (eo_lstM (em_nil))) (sb_cons (ss_asg sc__law_chain.nd rfl (by first | exact .inl rfl | exact .inr rfl) (fun z => nomatch z) (eo_lstM (em_nil))) (sb_cons (ss_for hp rfl (ei_rng1 rfl T.z_range (ea_v (EO.v (eo_int)) (ea_nil))) (eg_name sc__law_chain.nd rfl (by first | exact .inl rfl | exact .inr rfl) (fun z => nomatch z)) (b := lp__law_chain_1) (sb_cons (ss_setLc (own := [("_law_other", 8), ("_law_one", 9)]) rfl sc__law_chain.nd rfl rfl (fun z => nomatch z) rfl rfl rfl (by decide +kernel) (ei_w rfl (ev_var (pv 1))) (by show blkC ["_law_book_here", "_law_rows", "_law_name_here", "_law_found", "_law_seen", "_law_turn", "_law_hits", "_law_parent", "_law_other", "_law_one"] (defScope s__law_chain) _ _ = true; decide +kernel) (fun _ _ _ _ _ => egw_tup rfl rfl (egsw_cons (egw_name (by decide) sc__law_chain.nd rfl (by first | exact .inl rfl | exact .inr rfl) (fun z => nomatch z)) (egsw_cons (egw_name (by decide) sc__law_chain.nd rfl (by first | exact .inl rfl | exact .inr rfl) (fun z => nomatch z)) (egsw_nil))) 2 (gsCons_len (gsCons_len (gsNil_len)))) (fun _ _ _ _ _ tk => ets_one (et_eq rfl hr.units (EO.v (eo_call (ok__law_codes T) tk (hr.mono (by decide)) rfl T.m__law_codes T.f__law_codes.kp T.i__law_codes (ea_v (ev_var (pv 8)) (ea_nil)))) (ev_var (pv 2)))) (fun _ _ _ _ _ tk => EV.o (ev_var (pv 9))) (fun _ _ z => nomatch z)) (sb_cons (ss_if (EW.t (ew_or (et_in rfl (room65 hr) (ev_var (pv 2)) (ev_var (pv 4))) (ew_or (et_eq rfl hr.units (EO.v (eo_B call_len says_len rfl T.z_len bb_len (ea_v (ev_var (pv 6)) (ea_nil)))) (EO.v (eo_int))) (ew_or1 (et_ne rfl hr.units (ev_ix rfl (ev_ix rfl (ev_var (pv 6)) (EO.v (eo_int))) (EO.v (eo_int))) (EO.v (eo_str))))))) (sb_one (ss_brk)) (sb_nil)) (sb_cons (ss_fz 2 (fun z => nomatch z) (ss_app (pv 4) (EV.o (ev_var (pv 2))))) (sb_cons (ss_app (pv 3) (EV.o (ev_ix rfl (ev_var (pv 6)) (EO.v (eo_int))))) (sb_cons (ss_asg sc__law_chain.nd rfl (by first | exact .inl rfl | exact .inr rfl) (fun z => nomatch z) (eo_call (ok__law_get T) tk (hr.mono (by decide)) rfl T.m__law_get T.f__law_get.kp T.i__law_get (ea_v (ev_var (pv 0)) (ea_v (ev_ix rfl (ev_var (pv 6)) (EO.v (eo_int))) (ea_o (eo_str) (ea_nil)))))) (sb_cons (ss_if (EW.t (ew_or (et_ne rfl hr.units (ev_ix rfl (ev_var (pv 7)) (EO.v (eo_int))) (EO.v (eo_str))) (ew_or1 (et_eq rfl hr.units (ev_ix rfl (ev_var (pv 7)) (EO.v (eo_int))) (EO.v (eo_tup (ea_nil))))))) (sb_one (ss_brk)) (sb_nil)) (sb_one (ss_asg sc__law_chain.nd rfl (by first | exact .inl rfl | exact .inr rfl) (fun z => nomatch z) (EV.o (ev_ix rfl (ev_var (pv 7)) (EO.v (eo_int))))))))))))) (sb_one (ss_retV (i := 3) (fun z => nomatch z) (pv 3)))))
theorem ok__law_first (T : Txt K mg A) : FnOk P w K mg base (L2.CX P w) 3 A.a__law_first A.fd__law_first ["_law_book_here", "_law_chain_here", "_law_name_here", "_law_kind", "_law_low", "_law_high"] (spD (kx K) (ec A) 6 d__law_first) := by
  refine fn_ok 2 6 8 (kx K) (ec A) rfl rfl T.f__law_first sc__law_first (b := b__law_first) fun cdv A' outer s H Ew He F0 v0 W hr tk hp => ?_
  exact sb_cons (ss_for hp rfl (ei_w rfl (ev_var (pv 1))) (eg_name sc__law_first.nd rfl (by first | exact .inl rfl | exact .inr rfl) (fun z => nomatch z)) (b := lp__law_first_1) (sb_cons (ss_asg sc__law_first.nd rfl (by first | exact .inl rfl | exact .inr rfl) (fun z => nomatch z) (eo_call (ok__law_get T) tk (hr.mono (by decide)) rfl T.m__law_get T.f__law_get.kp T.i__law_get (ea_v (ev_var (pv 0)) (ea_v (ev_var (pv 6)) (ea_v (ev_var (pv 2)) (ea_nil)))))) (sb_one (ss_if (EW.t (ew_and (et_eq rfl hr.units (ev_ix rfl (ev_var (pv 7)) (EO.v (eo_int))) (ev_var (pv 3))) (ew_and1 (EW.t (ew_or (et_eq rfl hr.units (ev_var (pv 3)) (EO.v (eo_str))) (ew_or1 (et_chain op_le says_cmp op_le says_cmp (by with_unfolding_all rfl) gCmp_bl (ev_var (pv 4)) (ev_ix rfl (ev_var (pv 7)) (EO.v (eo_int))) (ev_var (pv 5))))))))) (sb_one (ss_ret (EV.o (ev_ix rfl (ev_var (pv 7)) (EO.v (eo_int)))))) (sb_nil))))) (sb_one (ss_ret (eo_non)))
theorem ok__law_or (T : Txt K mg A) : FnOk P w K mg base (L2.CX P w) 1 A.a__law_or A.fd__law_or ["_law_value", "_law_other"] (spD (kx K) (ec A) 2 d__law_or) := by
  refine fn_ok 0 2 2 (kx K) (ec A) rfl rfl T.f__law_or sc__law_or (b := b__law_or) fun cdv A' outer s H Ew He F0 v0 W hr tk hp => ?_
  exact sb_cons (ss_if (et_is (ev_var (pv 0)) (EO.v (eo_non))) (sb_one (ss_retV (i := 1) (fun z => nomatch z) (pv 1))) (sb_nil)) (sb_one (ss_retV (i := 0) (fun z => nomatch z) (pv 0)))
theorem ok__law_near (T : Txt K mg A) : FnOk P w K mg base (L2.CX P w) 4 A.a__law_near A.fd__law_near ["_law_book_here", "_law_chain_here", "_law_name_here", "_law_low", "_law_high", "_law_other"] (spD (kx K) (ec A) 6 d__law_near) := by
  refine fn_ok 3 6 7 (kx K) (ec A) rfl rfl T.f__law_near sc__law_near (b := b__law_near) fun cdv A' outer s H Ew He F0 v0 W hr tk hp => ?_
  exact sb_cons (ss_asg sc__law_near.nd rfl (by first | exact .inl rfl | exact .inr rfl) (fun z => nomatch z) (eo_call (ok__law_first T) tk (hr.mono (by decide)) rfl T.m__law_first T.f__law_first.kp T.i__law_first (ea_v (ev_var (pv 0)) (ea_v (ev_var (pv 1)) (ea_v (ev_var (pv 2)) (ea_o (eo_str) (ea_o (eo_neg (EO.v (eo_int))) (ea_o (eo_int) (ea_nil))))))))) (sb_cons (ss_if (et_is (ev_var (pv 6)) (EO.v (eo_non))) (sb_one (ss_retV (i := 5) (fun z => nomatch z) (pv 5))) (sb_nil)) (sb_one (ss_ret (eo_B (call_max2 rfl) says_max2 rfl T.z_max bb_max (ea_v (ev_var (pv 3)) (ea_v (EO.v (eo_B (call_min2 rfl) says_min2 rfl T.z_min bb_min (ea_v (ev_var (pv 4)) (ea_v (ev_var (pv 6)) (ea_nil))))) (ea_nil)))))))
theorem ok__law_align (T : Txt K mg A) : FnOk P w K mg base (L2.CX P w) 3 A.a__law_align A.fd__law_align ["_law_book_here", "_law_chain_here"] (spD (kx K) (ec A) 2 d__law_align) := by
  refine fn_ok 2 2 5 (kx K) (ec A) rfl rfl T.f__law_align sc__law_align (b := b__law_align) fun cdv A' outer s H Ew He F0 v0 W hr tk hp => ?_
  exact sb_cons (ss_for hp rfl (ei_w rfl (ev_var (pv 1))) (eg_name sc__law_align.nd rfl (by first | exact .inl rfl | exact .inr rfl) (fun z => nomatch z)) (b := lp__law_align_1) (sb_cons (ss_asg sc__law_align.nd rfl (by first | exact .inl rfl | exact .inr rfl) (fun z => nomatch z) (eo_call (ok__law_get T) tk (hr.mono (by decide)) rfl T.m__law_get T.f__law_get.kp T.i__law_get (ea_v (ev_var (pv 0)) (ea_v (ev_var (pv 2)) (ea_o (eo_str) (ea_nil)))))) (sb_one (ss_for hp rfl (ei_o rfl (eo_lst (ea_o (eo_str) (ea_o (eo_str) (ea_o (eo_str) (ea_nil)))))) (eg_name sc__law_align.nd rfl (by first | exact .inl rfl | exact .inr rfl) (fun z => nomatch z)) (b := lp__law_align_2) (sb_one (ss_if (et_eq rfl hr.units (ev_var (pv 3)) (EO.v (eo_call (ok__law_name T) tk (hr.mono (by decide)) rfl T.m__law_name T.f__law_name.kp T.i__law_name (ea_v (ev_var (pv 4)) (ea_nil))))) (sb_one (ss_retV (i := 4) (fun z => nomatch z) (pv 4))) (sb_nil))))))) (sb_one (ss_ret (eo_str)))
theorem ok__law_due (T : Txt K mg A) : FnOk P w K mg base (L2.CX P w) 5 A.a__law_due A.fd__law_due ["_law_book_here", "_law_rows", "_law_name_here"] (spD (kx K) (ec A) 3 d__law_due) := by
  refine fn_ok 4 3 9 (kx K) (ec A) rfl rfl T.f__law_due sc__law_due (b := b__law_due) fun cdv A' outer s H Ew He F0 v0 W hr tk hp => ?_
  exact sb_cons (ss_asg sc__law_due.nd rfl (by first | exact .inl rfl | exact .inr rfl) (fun z => nomatch z) (eo_call (ok__law_chain T) tk (hr.mono (by decide)) rfl T.m__law_chain T.f__law_chain.kp T.i__law_chain (ea_v (ev_var (pv 0)) (ea_v (ev_var (pv 1)) (ea_v (ev_var (pv 2)) (ea_nil)))))) (sb_cons (ss_asg sc__law_due.nd rfl (by first | exact .inl rfl | exact .inr rfl) (fun z => nomatch z) (eo_call (ok__law_first T) tk (hr.mono (by decide)) rfl T.m__law_first T.f__law_first.kp T.i__law_first (ea_v (ev_var (pv 0)) (ea_v (ev_var (pv 3)) (ea_o (eo_str) (ea_o (eo_str) (ea_o (eo_int) (ea_o (eo_int) (ea_nil))))))))) (sb_cons (ss_asg sc__law_due.nd rfl (by first | exact .inl rfl | exact .inr rfl) (fun z => nomatch z) (eo_call (ok__law_or T) tk (hr.mono (by decide)) rfl T.m__law_or T.f__law_or.kp T.i__law_or (ea_o (eo_call (ok__law_first T) tk (hr.mono (by decide)) rfl T.m__law_first T.f__law_first.kp T.i__law_first (ea_v (ev_var (pv 0)) (ea_v (ev_var (pv 3)) (ea_o (eo_str) (ea_o (eo_str) (ea_o (eo_int) (ea_o (eo_int) (ea_nil)))))))) (ea_o (eo_int) (ea_nil))))) (sb_cons (ss_asg sc__law_due.nd rfl (by first | exact .inl rfl | exact .inr rfl) (fun z => nomatch z) (eo_call (ok__law_or T) tk (hr.mono (by decide)) rfl T.m__law_or T.f__law_or.kp T.i__law_or (ea_o (eo_call (ok__law_first T) tk (hr.mono (by decide)) rfl T.m__law_first T.f__law_first.kp T.i__law_first (ea_v (ev_var (pv 0)) (ea_v (ev_var (pv 3)) (ea_o (eo_str) (ea_o (eo_str) (ea_o (eo_int) (ea_o (eo_int) (ea_nil)))))))) (ea_o (eo_neg (EO.v (eo_int))) (ea_nil))))) (sb_cons (ss_asg sc__law_due.nd rfl (by first | exact .inl rfl | exact .inr rfl) (fun z => nomatch z) (eo_call (ok__law_near T) tk (hr.mono (by decide)) rfl T.m__law_near T.f__law_near.kp T.i__law_near (ea_v (ev_var (pv 0)) (ea_v (ev_var (pv 3)) (ea_o (eo_str) (ea_o (eo_int) (ea_o (eo_int) (ea_o (eo_int) (ea_nil))))))))) (sb_cons (ss_asg sc__law_due.nd rfl (by first | exact .inl rfl | exact .inr rfl) (fun z => nomatch z) (eo_call (ok__law_near T) tk (hr.mono (by decide)) rfl T.m__law_near T.f__law_near.kp T.i__law_near (ea_v (ev_var (pv 0)) (ea_v (ev_var (pv 3)) (ea_o (eo_str) (ea_o (eo_int) (ea_o (eo_int) (ea_o (eo_int) (ea_nil))))))))) (sb_one (ss_retT (fun _ _ z => nomatch z) (em_m (i := 4) (by decide) (pv 4) (em_m (i := 7) (by decide) (pv 7) (em_m (i := 5) (by decide) (pv 5) (em_m (i := 6) (by decide) (pv 6) (em_o (eo_call (ok__law_align T) tk (hr.mono (by decide)) rfl T.m__law_align T.f__law_align.kp T.i__law_align (ea_v (ev_var (pv 0)) (ea_v (ev_var (pv 3)) (ea_nil)))) (em_m (i := 8) (by decide) (pv 8) (em_o (eo_call (ok__law_near T) tk (hr.mono (by decide)) rfl T.m__law_near T.f__law_near.kp T.i__law_near (ea_v (ev_var (pv 0)) (ea_v (ev_var (pv 3)) (ea_o (eo_str) (ea_o (eo_int) (ea_o (eo_int) (ea_o (eo_int) (ea_nil)))))))) (em_nil)))))))))))))))
theorem ok_law (T : Txt K mg A) : FnOk P w K mg base (L2.CX P w) 7 A.a_law A.fd_law ["_law_script"] (spD (kx K) (ec A) 1 d_law) := by
  refine fn_ok 6 1 10 (kx K) (ec A) rfl rfl T.f_law sc_law (b := b_law) fun cdv A' outer s H Ew He F0 v0 W hr tk hp => ?_
  exact sb_cons (ss_asg sc_law.nd rfl (by first | exact .inl rfl | exact .inr rfl) (fun z => nomatch z) (eo_call (ok__law_styles T) tk (hr.mono (by decide)) rfl T.m__law_styles T.f__law_styles.kp T.i__law_styles (ea_v (ev_var (pv 0)) (ea_nil)))) (sb_cons (ss_asg sc_law.nd rfl (by first | exact .inl rfl | exact .inr rfl) (fun z => nomatch z) (eo_call (ok__law_book T) tk (hr.mono (by decide)) rfl T.m__law_book T.f__law_book.kp T.i__law_book (ea_v (ev_var (pv 1)) (ea_nil)))) (sb_cons (ss_for hp rfl (ei_o rfl (eo_lst (ea_o (eo_str) (ea_o (eo_str) (ea_o (eo_str) (ea_o (eo_str) (ea_o (eo_str) (ea_o (eo_add (EO.v (eo_str)) (EO.v (eo_T call_str_int says_str rfl T.z_str bb_str (ea_v (EO.v (eo_mod (EO.v (eo_B call_abs says_abs rfl T.z_abs bb_abs (ea_v (EO.v (eo_call (ok__law_cell T) tk (hr.mono (by decide)) rfl T.m__law_cell T.f__law_cell.kp T.i__law_cell (ea_v (ev_var (pv 0)) (ea_o (eo_int) (ea_nil))))) (ea_nil)))) (EO.v (eo_int)))) (ea_nil))))) (ea_o (eo_str) (ea_o (eo_str) (ea_nil))))))))))) (eg_name sc_law.nd rfl (by first | exact .inl rfl | exact .inr rfl) (fun z => nomatch z)) (b := lp_law_1) (sb_cons (ss_asg sc_law.nd rfl (by first | exact .inl rfl | exact .inr rfl) (fun z => nomatch z) (eo_call (ok_style_of T) tk (hr.mono (by decide)) rfl T.m_style_of T.f_style_of.kp T.i_style_of (ea_v (ev_var (pv 2)) (ea_o (eo_call (ok__law_codes T) tk (hr.mono (by decide)) rfl T.m__law_codes T.f__law_codes.kp T.i__law_codes (ea_v (ev_var (pv 3)) (ea_nil))) (ea_nil))))) (sb_one (ss_if (EW.t (ew_or (et_not (et_tru rfl (EO.v (eo_isi rfl rfl T.z_isinstance bb_isinstance rfl T.z_tuple bb_tuple (ev_var (pv 9)))))) (ew_or1 (et_ne rfl hr.units (ev_var (pv 9)) (EO.v (eo_call (ok__law_due T) tk (hr.mono (by decide)) rfl T.m__law_due T.f__law_due.kp T.i__law_due (ea_v (ev_var (pv 2)) (ea_v (ev_var (pv 1)) (ea_o (eo_call (ok__law_codes T) tk (hr.mono (by decide)) rfl T.m__law_codes T.f__law_codes.kp T.i__law_codes (ea_v (ev_var (pv 3)) (ea_nil))) (ea_nil)))))))))) (sb_one (ss_ret (eo_bl))) (sb_nil))))) (sb_cons (ss_asg sc_law.nd rfl (by first | exact .inl rfl | exact .inr rfl) (fun z => nomatch z) (eo_sub (EO.v (eo_mod (EO.v (eo_T call_int1 says_int rfl T.z_int bb_int (ea_v (EO.v (eo_call (ok__law_cell T) tk (hr.mono (by decide)) rfl T.m__law_cell T.f__law_cell.kp T.i__law_cell (ea_v (ev_var (pv 0)) (ea_o (eo_int) (ea_nil))))) (ea_nil)))) (EO.v (eo_int)))) (EO.v (eo_int)))) (sb_cons (ss_asg sc_law.nd rfl (by first | exact .inl rfl | exact .inr rfl) (fun z => nomatch z) (eo_sub (EO.v (eo_mod (EO.v (eo_B call_abs says_abs rfl T.z_abs bb_abs (ea_v (EO.v (eo_call (ok__law_cell T) tk (hr.mono (by decide)) rfl T.m__law_cell T.f__law_cell.kp T.i__law_cell (ea_v (ev_var (pv 0)) (ea_o (eo_int) (ea_nil))))) (ea_nil)))) (EO.v (eo_int)))) (EO.v (eo_int)))) (sb_cons (ss_asg sc_law.nd rfl (by first | exact .inl rfl | exact .inr rfl) (fun z => nomatch z) (eo_add (ev_var (pv 5)) (EO.v (eo_mod (EO.v (eo_B call_abs says_abs rfl T.z_abs bb_abs (ea_v (EO.v (eo_call (ok__law_cell T) tk (hr.mono (by decide)) rfl T.m__law_cell T.f__law_cell.kp T.i__law_cell (ea_v (ev_var (pv 0)) (ea_o (eo_int) (ea_nil))))) (ea_nil)))) (EO.v (eo_int)))))) (sb_cons (ss_if (et_ne rfl hr.units (EO.v (eo_call (ok_number_of T) tk (hr.mono (by decide)) rfl T.m_number_of T.f_number_of.kp T.i_number_of (ea_o (eo_tup (ea_o (eo_str) (ea_v (ev_var (pv 4)) (ea_nil)))) (ea_v (ev_var (pv 5)) (ea_v (ev_var (pv 6)) (ea_o (eo_int) (ea_nil))))))) (EO.v (eo_B (call_max2 rfl) says_max2 rfl T.z_max bb_max (ea_v (ev_var (pv 5)) (ea_v (EO.v (eo_B (call_min2 rfl) says_min2 rfl T.z_min bb_min (ea_v (ev_var (pv 6)) (ea_v (ev_var (pv 4)) (ea_nil))))) (ea_nil)))))) (sb_one (ss_ret (eo_bl))) (sb_nil)) (sb_cons (ss_asg sc_law.nd rfl (by first | exact .inl rfl | exact .inr rfl) (fun z => nomatch z) (eo_neg (EO.v (eo_int)))) (sb_cons (ss_if (et_chain op_le says_cmp op_le says_cmp (by with_unfolding_all rfl) gCmp_bl (EO.v (eo_int)) (ev_var (pv 4)) (EO.v (eo_int))) (sb_one (ss_asg sc_law.nd rfl (by first | exact .inl rfl | exact .inr rfl) (fun z => nomatch z) (EV.o (ev_var (pv 4))))) (sb_nil)) (sb_cons (ss_if (EW.t (ew_or (et_ne rfl hr.units (EO.v (eo_call (ok_colour_of T) tk (hr.mono (by decide)) rfl T.m_colour_of T.f_colour_of.kp T.i_colour_of (ea_o (eo_tup (ea_o (eo_str) (ea_v (ev_var (pv 4)) (ea_nil)))) (ea_o (eo_neg (EO.v (eo_int))) (ea_nil))))) (ev_var (pv 7))) (ew_or1 (et_ne rfl hr.units (EO.v (eo_call (ok_colour_of T) tk (hr.mono (by decide)) rfl T.m_colour_of T.f_colour_of.kp T.i_colour_of (ea_o (eo_tup (ea_o (eo_str) (ea_o (eo_int) (ea_nil)))) (ea_o (eo_neg (EO.v (eo_int))) (ea_nil))))) (EO.v (eo_int)))))) (sb_one (ss_ret (eo_bl))) (sb_nil)) (sb_cons (ss_for hp rfl (ei_o rfl (eo_lst (ea_o (eo_tup (ea_o (eo_str) (ea_nil))) (ea_o (eo_tup (ea_o (eo_str) (ea_o (eo_int) (ea_nil)))) (ea_o (eo_tup (ea_o (eo_str) (ea_o (eo_tup (ea_o (eo_int) (ea_nil))) (ea_nil)))) (ea_o (eo_tup (ea_o (eo_str) (ea_o (eo_tup (ea_nil)) (ea_nil)))) (ea_nil))))))) (eg_name sc_law.nd rfl (by first | exact .inl rfl | exact .inr rfl) (fun z => nomatch z)) (b := lp_law_2) (sb_one (ss_if (EW.t (ew_or (et_ne rfl hr.units (EO.v (eo_call (ok_number_of T) tk (hr.mono (by decide)) rfl T.m_number_of T.f_number_of.kp T.i_number_of (ea_v (ev_var (pv 8)) (ea_v (ev_var (pv 5)) (ea_v (ev_var (pv 6)) (ea_o (eo_int) (ea_nil))))))) (EO.v (eo_int))) (ew_or1 (et_ne rfl hr.units (EO.v (eo_call (ok_colour_of T) tk (hr.mono (by decide)) rfl T.m_colour_of T.f_colour_of.kp T.i_colour_of (ea_v (ev_var (pv 8)) (ea_o (eo_int) (ea_nil))))) (EO.v (eo_int)))))) (sb_one (ss_ret (eo_bl))) (sb_nil)))) (sb_one (ss_ret (eo_bl)))))))))))))
end
set_option maxRecDepth 100000
set_option maxHeartbeats 4000000
open PySem PySem.Spec PyProof.Rows L2 Dv
noncomputable section
def cell (ns : List Int) (k : Nat) : Int := ns.getD k 0
theorem m_cell (ns : List Int) (k : Nat) : d__law_cell [.scr (dInts ns), .int k] = .ok (.int (cell ns k)) := by
  by_cases h : k < ns.length
  · simp [d__law_cell, b__law_cell, fnD, cell, h, ixD_nat]
  · simp [d__law_cell, b__law_cell, fnD, cell, h, ixD_nat]
theorem m_cellI (ns : List Int) (i : Int) (h : 0 ≤ i) : d__law_cell [.scr (dInts ns), .int i] = .ok (.int (cell ns i.toNat)) := by
  obtain ⟨k, rfl⟩ := Int.eq_ofNat_of_zero_le h
  exact m_cell ns k
/-- abs -/
def iabs (c : Int) : Int := if c < 0 then -c else c
theorem iabs_nn (c : Int) : 0 ≤ iabs c := by unfold iabs; split <;> omega
theorem iabs_eq (c : Int) : (if c < 0 then -c else c) = iabs c := rfl
theorem ixN_lt {n : Nat} {k : Nat} (h : k < n) : ixN n (k : Int) = some k := by
  unfold ixN
  rw [if_pos (by omega), if_pos (by omega), Int.toNat_natCast]
theorem for_rng {g : D → Dv.Env → Option Dv.Env} {b : Dv.Env → SR} (I : Nat → Dv.Env → Prop) (n : Nat) (ρ : Dv.Env) (hs : ∀ j ρ, j < n → I j ρ → ∃ ρ1 ρ2, g (.int (j : Int)) ρ = some ρ1 ∧ (b ρ1 = .nx ρ2 ∨ b ρ1 = .ct ρ2) ∧ I (j + 1) ρ2) (h0 : I 0 ρ) :
    ∃ ρ', forL g b (rngL 0 n) ρ = .nx ρ' ∧ I n ρ' := by
  obtain ⟨ρ', e, h⟩ := forL_inv (g := g) (b := b) I (rngL 0 n) 0 ρ (fun j d ρ ed h => by
    have hj : j < n := by have := (List.getElem?_eq_some_iff.mp ed).1; rwa [rngL_len] at this
    have ed' : d = .int (j : Int) := by
      unfold rngL at ed
      rw [List.getElem?_map, List.getElem?_range hj] at ed
      simpa using ed.symm
    subst ed'
    rw [Nat.zero_add] at h ⊢
    exact hs j ρ hj h) h0
  rw [rngL_len, Nat.zero_add] at h
  exact ⟨ρ', e, h⟩
/-- over a list of ints -/
theorem for_ints {g : D → Dv.Env → Option Dv.Env} {b : Dv.Env → SR} (I : Nat → Dv.Env → Prop) (xs : List Int) (ρ : Dv.Env) (hs : ∀ j x ρ, xs[j]? = some x → I j ρ → ∃ ρ1 ρ2, g (.int x) ρ = some ρ1 ∧ (b ρ1 = .nx ρ2 ∨ b ρ1 = .ct ρ2) ∧ I (j + 1) ρ2) (h0 : I 0 ρ) :
    ∃ ρ', forL g b (dInts xs) ρ = .nx ρ' ∧ I xs.length ρ' := by
  obtain ⟨ρ', e, h⟩ := forL_inv (g := g) (b := b) I (dInts xs) 0 ρ (fun j d ρ ed h => by
    rw [dInts_get] at ed
    cases ex : xs[j]? with
    | none => rw [ex] at ed; cases ed
    | some x =>
      rw [ex] at ed
      cases ed
      rw [Nat.zero_add] at h ⊢
      exact hs j x ρ ex h) h0
  rw [dInts_len, Nat.zero_add] at h
  exact ⟨ρ', e, h⟩

/-- a loop that looks for the first that fits -/
theorem for_find {α : Type} (f : α → D) {g : D → Dv.Env → Option Dv.Env} {b : Dv.Env → SR} (p : α → Bool) (r : α → D) (I : Dv.Env → Prop) : ∀ (as : List α) (ρ : Dv.Env),
    (∀ a ∈ as, ∀ ρ, I ρ → ∃ ρ1 ρ2, g (f a) ρ = some ρ1 ∧ ((p a = true ∧ b ρ1 = .rt (r a) ρ2) ∨ (p a = false ∧ (b ρ1 = .nx ρ2 ∨ b ρ1 = .ct ρ2) ∧ I ρ2))) → I ρ →
    (∃ a ρ', as.find? p = some a ∧ forL g b (as.map f) ρ = .rt (r a) ρ') ∨ (as.find? p = none ∧ ∃ ρ', forL g b (as.map f) ρ = .nx ρ' ∧ I ρ')
  | [], ρ, _, h => .inr ⟨rfl, ρ, rfl, h⟩
  | a :: as, ρ, hs, h => by
    obtain ⟨ρ1, ρ2, e1, e2⟩ := hs a List.mem_cons_self ρ h
    rw [List.map_cons, forL_cons, e1]
    rcases e2 with ⟨pa, e2⟩ | ⟨pa, e2, h2⟩
    · exact .inl ⟨a, ρ2, by rw [List.find?_cons, pa], by simp only [e2]⟩
    · have ih := for_find f p r I as ρ2 (fun x hx => hs x (List.mem_cons_of_mem _ hx)) h2
      rw [List.find?_cons, pa]
      rcases e2 with e2 | e2 <;> (simp only [e2]; exact ih)
/-- a loop that folds -/
theorem for_fold {α σ : Type} (f : α → D) {g : D → Dv.Env → Option Dv.Env} {b : Dv.Env → SR} (st : σ → α → σ) (I : σ → Dv.Env → Prop) : ∀ (as : List α) (s : σ) (ρ : Dv.Env),
    (∀ a ∈ as, ∀ s ρ, I s ρ → ∃ ρ1 ρ2, g (f a) ρ = some ρ1 ∧ (b ρ1 = .nx ρ2 ∨ b ρ1 = .ct ρ2) ∧ I (st s a) ρ2) → I s ρ → ∃ ρ', forL g b (as.map f) ρ = .nx ρ' ∧ I (as.foldl st s) ρ'
  | [], s, ρ, _, h => ⟨ρ, rfl, h⟩
  | a :: as, s, ρ, hs, h => by
    obtain ⟨ρ1, ρ2, e1, e2, h2⟩ := hs a List.mem_cons_self s ρ h
    rw [List.map_cons, forL_cons, e1, List.foldl_cons]
    have ih := for_fold f st I as (st s a) ρ2 (fun x hx => hs x (List.mem_cons_of_mem _ hx)) h2
    rcases e2 with e2 | e2 <;> (simp only [e2]; exact ih)
theorem cut_mid {α : Type} (xs : List α) (a n : Nat) (hi : Int) (h : hi = (a : Int) + (n : Int)) : Dv.cutD xs (some (a : Int)) (some hi) = (xs.drop a).take n := by
  subst h
  unfold Dv.cutD
  rw [show (a : Int) + (n : Int) = ((a + n : Nat) : Int) by omega, HT.sIx_nat, HT.sIx_nat]
  by_cases h : a ≤ xs.length
  · rw [show min a xs.length = a by omega]
    by_cases h2 : a + n ≤ xs.length
    · rw [show min (a + n) xs.length - a = n by omega]
    · rw [List.take_of_length_le (by rw [List.length_drop]; omega), List.take_of_length_le (by rw [List.length_drop]; omega)]
  · rw [List.drop_eq_nil_of_le (by omega), List.drop_eq_nil_of_le (by omega), List.take_nil, List.take_nil]
theorem cut_to {α : Type} (xs : List α) (n : Nat) : Dv.cutD xs none (some (n : Int)) = xs.take n := by
  unfold Dv.cutD
  rw [HT.sIx_nat, HT.sIx_none, List.drop_zero, Nat.sub_zero]
  by_cases h : n ≤ xs.length
  · rw [show min n xs.length = n by omega]
  · rw [List.take_of_length_le (by omega), List.take_of_length_le (by omega)]
theorem cut_from {α : Type} (xs : List α) (n : Nat) : Dv.cutD xs (some (n : Int)) none = xs.drop n := by
  unfold Dv.cutD
  rw [HT.sIx_nat, HT.sIx_none]
  by_cases h : n ≤ xs.length
  · rw [show min n xs.length = n by omega, List.take_of_length_le (by rw [List.length_drop]; omega)]
  · rw [List.drop_eq_nil_of_le (by omega), List.drop_eq_nil_of_le (by omega), List.take_nil]
theorem forL_nx {g : D → Dv.Env → Option Dv.Env} {b : Dv.Env → SR} {d : D} {ds : List D} {ρ ρ1 ρ2 : Dv.Env} {r : SR} (e1 : g d ρ = some ρ1) (e2 : b ρ1 = .nx ρ2) (e3 : forL g b ds ρ2 = r) : forL g b (d :: ds) ρ = r := by
  rw [forL_cons, e1]
  simp only [e2]
  exact e3
theorem ix0 (d : D) (ds : List D) : ixD (d :: ds) 0 = some d := rfl
theorem for_rngL {g : D → Dv.Env → Option Dv.Env} {b : Dv.Env → SR} (I : Nat → Dv.Env → Prop) (lo : Int) (n : Nat) (ρ : Dv.Env) (hs : ∀ j ρ, j < n → I j ρ → ∃ ρ1 ρ2, g (.int (lo + (j : Int))) ρ = some ρ1 ∧ (b ρ1 = .nx ρ2 ∨ b ρ1 = .ct ρ2) ∧ I (j + 1) ρ2) (h0 : I 0 ρ) :
    ∃ ρ', forL g b (rngL lo n) ρ = .nx ρ' ∧ I n ρ' := by
  obtain ⟨ρ', e, h⟩ := forL_inv (g := g) (b := b) I (rngL lo n) 0 ρ (fun j d ρ ed h => by
    have hj : j < n := by have := (List.getElem?_eq_some_iff.mp ed).1; rwa [rngL_len] at this
    have ed' : d = .int (lo + (j : Int)) := by
      unfold rngL at ed
      rw [List.getElem?_map, List.getElem?_range hj] at ed
      simpa using ed.symm
    subst ed'
    rw [Nat.zero_add] at h ⊢
    exact hs j ρ hj h) h0
  rw [rngL_len, Nat.zero_add] at h
  exact ⟨ρ', e, h⟩

theorem twice_core (c k x y z : Int) (hx : (c * 48271 + k * 69621 + 7) % 2147483647 = x) (wx : W64 x) (hy : (x * x + k * 40692 + 3) % 2147483629 = y) (wy : W64 y) (hz : (y * y + k * 30269 + 5) % 2147483587 = z) :
    d__law_twice [.int c, .int k] = .ok (.int (z / 64)) := by
  simp [d__law_twice, b__law_twice, fnD, hx, hy, hz, wx, wy]
theorem m_twice (c k : Int) : ∃ t : Int, d__law_twice [.int c, .int k] = .ok (.int t) ∧ 0 ≤ t := by
  refine ⟨_, twice_core c k _ _ _ rfl (w64 ?_ ?_) rfl (w64 ?_ ?_) rfl, ?_⟩ <;> omega
theorem ix1 (a b : D) (ds : List D) : ixD (a :: b :: ds) 1 = some b := rfl
theorem ix2 (a b c : D) (ds : List D) : ixD (a :: b :: c :: ds) 2 = some c := rfl
def cps (x : Str) : List Int := x.cps.toList.map fun (c : Nat) => (c : Int)
def ordD : D → D
  | .str x => .int (x.cps.getD 0 0 : Nat)
  | d => d
theorem sign_len (c : Nat) : Str.length ⟨#[c]⟩ = 1 := rfl
theorem ord_map (x : Str) : (x.cps.toList.map fun c => D.str ⟨#[c]⟩).map ordD = dInts (cps x) := by
  unfold cps dInts
  rw [List.map_map, List.map_map]
  rfl
theorem codes_lc (x : Str) (y : Option D) (hl : x.cps.toList.length ≤ 16777216) : lcL (gNm 1) tYes (eB gOrd (aV (eVar 1) (aNil))) [y, none] (x.cps.toList.map fun c => .str ⟨#[c]⟩) [] = .ok (.lst true (dInts (cps x))) := by
  rw [lcL_map ordD _ (fun d hd => by
    obtain ⟨c, _, rfl⟩ := List.mem_map.mp hd
    refine ⟨_, rfl, rfl, ?_⟩
    simp [sign_len, ordD]) (by rw [List.length_map]; exact hl), ord_map]
theorem codes_end (x : Str) (R : List Int) (h : lcL (gNm 1) tYes (eB gOrd (aV (eVar 1) (aNil))) [some (.str x), none] (x.cps.toList.map fun c => .str ⟨#[c]⟩) [] = .ok (.lst true (dInts R))) : d__law_codes [.str x] = .ok (.tup (dInts R)) ∧ d_codes [.str x] = .ok (.tup (dInts R)) := by
  constructor
  · simp [d__law_codes, b__law_codes, fnD, h]
  · simp [d_codes, b_codes, fnD, h]
def okS (x : Str) : Prop := x.cps.toList.length ≤ 16777216
theorem m_lcodes (x : Str) (hl : okS x) : d__law_codes [.str x] = .ok (.tup (dInts (cps x))) := (codes_end x _ (codes_lc x _ hl)).1
theorem m_codes (x : Str) (hl : okS x) : d_codes [.str x] = .ok (.tup (dInts (cps x))) := (codes_end x _ (codes_lc x _ hl)).2
/-! values -/
inductive Lf where
  | none | text | ref (n : Int) | bol | name (cs : List Int) | int (n : Int) | lst
def sN : Str := Str.ofString "none"
def sT : Str := Str.ofString "text"
def sR : Str := Str.ofString "ref"
def sB : Str := Str.ofString "bool"
def sNm : Str := Str.ofString "name"
def sI : Str := Str.ofString "int"
def sL : Str := Str.ofString "list"
def sD : Str := Str.ofString "dict"
def lD : Lf → D
  | .none => .tup [.str (Str.ofString "none")]
  | .text => .tup [.str (Str.ofString "text"), .tup [.int 65]]
  | .ref n => .tup [.str (Str.ofString "ref"), .int n]
  | .bol => .tup [.str (Str.ofString "bool"), .int 1]
  | .name cs => .tup [.str (Str.ofString "name"), .tup (dInts cs)]
  | .int n => .tup [.str (Str.ofString "int"), .int n]
  | .lst => .tup [.str (Str.ofString "list"), .tup []]
def prD (p : List Int × D) : D := .tup [.tup (dInts p.1), p.2]
def dcD (ps : List (List Int × D)) : D := .tup [.str (Str.ofString "dict"), .tup (ps.map prD)]
abbrev Rw := List (List Int × Lf)
inductive RV where
  | dct (ps : Rw) | lst
def lPs (ps : Rw) : List (List Int × D) := ps.map fun p => (p.1, lD p.2)
def rwD (ps : Rw) : D := dcD (lPs ps)
def rD : RV → D
  | .dct ps => rwD ps
  | .lst => lD .lst
abbrev Row := Str × RV
def stylesD (rows : List Row) : D := dcD (rows.map fun r => (cps r.1, rD r.2))
def kStyles : Str := Str.ofString "Styles"
def rootD (rows : List Row) : D := dcD [(cps (Str.ofString "Styles"), stylesD rows), (cps (Str.ofString "Pages"), lD .lst)]
def objs (rows : List Row) : List (Int × D) := (1, rootD rows) :: (List.range 5).map fun k : Nat => (7 + (k : Int), D.tup [.str (Str.ofString "int"), .int (3 * (2 + (k : Int)) - 7)])
def obD (o : Int × D) : D := .tup [.int o.1, o.2]
def bookD (rows : List Row) : D := .tup [.tup ((objs rows).map obD), .int 1]
theorem lD_pure (v : Lf) : (lD v).pure = true := by
  cases v <;> simp [lD]
theorem prs_pure : ∀ ps : List (List Int × D), (∀ p ∈ ps, p.2.pure = true) → D.pureL (ps.map prD) = true
  | [], _ => rfl
  | p :: ps, h => by
    rw [List.map_cons, pureL_cons, prs_pure ps fun q hq => h q (List.mem_cons_of_mem _ hq)]
    have := h p List.mem_cons_self
    simp [prD, this]
theorem dcD_pure (ps : List (List Int × D)) (h : ∀ p ∈ ps, p.2.pure = true) : (dcD ps).pure = true := by
  have := prs_pure ps h
  simp [dcD, this]
theorem lPs_pure (ps : Rw) : ∀ p ∈ lPs ps, p.2.pure = true := fun p hp => by
  obtain ⟨q, _, rfl⟩ := List.mem_map.mp hp
  exact lD_pure q.2
theorem rD_pure (v : RV) : (rD v).pure = true := by
  cases v with
  | dct ps => exact dcD_pure _ (lPs_pure ps)
  | lst => rfl
theorem sty_pure (rows : List Row) : ∀ p ∈ rows.map (fun r => (cps r.1, rD r.2)), p.2.pure = true := fun p hp => by
  obtain ⟨q, _, rfl⟩ := List.mem_map.mp hp
  exact rD_pure q.2
theorem stylesD_pure (rows : List Row) : (stylesD rows).pure = true := dcD_pure _ (sty_pure rows)
theorem root_ps (rows : List Row) : ∀ p ∈ [(cps (Str.ofString "Styles"), stylesD rows), (cps (Str.ofString "Pages"), lD .lst)], p.2.pure = true := fun p hp => by
  rcases List.mem_cons.mp hp with rfl | hp
  · exact stylesD_pure rows
  · rw [List.mem_singleton.mp hp]; rfl
theorem rootD_pure (rows : List Row) : (rootD rows).pure = true := dcD_pure _ (root_ps rows)
theorem obs_pure : ∀ os : List (Int × D), (∀ o ∈ os, o.2.pure = true) → D.pureL (os.map obD) = true
  | [], _ => rfl
  | o :: os, h => by
    rw [List.map_cons, pureL_cons, obs_pure os fun q hq => h q (List.mem_cons_of_mem _ hq)]
    have := h o List.mem_cons_self
    simp [obD, this]
theorem objs_pure (rows : List Row) : ∀ o ∈ objs rows, o.2.pure = true := fun o ho => by
  rcases List.mem_cons.mp ho with rfl | ho
  · exact rootD_pure rows
  · obtain ⟨k, _, rfl⟩ := List.mem_map.mp ho
    rfl
theorem bookD_pure (rows : List Row) : (bookD rows).pure = true := by
  have := obs_pure _ (objs_pure rows)
  simp [bookD, this]
/-! find, get -/
theorem fi1_core (x0 : Option D) (n k : Int) (d : D) (p : d.pure = true) : lp_find_1 [x0, some (.int n), some (.int k), some d] = if k = n then .rt d [x0, some (.int n), some (.int k), some d] else .nx [x0, some (.int n), some (.int k), some d] := by
  by_cases h : k = n
  · subst h; simp [lp_find_1, p]
  · simp [lp_find_1, h]
def fnd (os : List (Int × D)) (n : Int) : D := ((os.find? fun o => decide (o.1 = n)).map (·.2)).getD .non
theorem find_end (os : List D) (r n : Int) (v : D) (pO : D.pureL os = true) (h : (∃ ρ', forL (gTp (gsCons (gNm 2) (gsCons (gNm 3) (gsNil)))) lp_find_1 os [some (.tup [.tup os, .int r]), some (.int n), none, none] = .rt v ρ') ∨ (v = .non ∧ ∃ ρ', forL (gTp (gsCons (gNm 2) (gsCons (gNm 3) (gsNil)))) lp_find_1 os [some (.tup [.tup os, .int r]), some (.int n), none, none] = .nx ρ')) :
    d_find [.tup [.tup os, .int r], .int n] = .ok v := by
  rcases h with ⟨ρ', h⟩ | ⟨rfl, ρ', h⟩
  · simp [d_find, b_find, fnD, ix0, pO, h]
  · simp [d_find, b_find, fnD, ix0, pO, h]
theorem m_find (os : List (Int × D)) (hp : ∀ o ∈ os, o.2.pure = true) (r n : Int) : d_find [.tup [.tup (os.map obD), .int r], .int n] = .ok (fnd os n) := by
  refine find_end _ r n _ (obs_pure os hp) ?_
  rcases for_find obD (g := gTp (gsCons (gNm 2) (gsCons (gNm 3) (gsNil)))) (b := lp_find_1) (fun o => decide (o.1 = n)) (fun o => o.2) (fun ρ => ∃ y z, ρ = [some (.tup [.tup (os.map obD), .int r]), some (.int n), y, z]) os [some (.tup [.tup (os.map obD), .int r]), some (.int n), none, none] (fun o ho ρ H => by
    obtain ⟨y, z, rfl⟩ := H
    have c := fi1_core (some (.tup [.tup (os.map obD), .int r])) n o.1 o.2 (hp o ho)
    refine ⟨_, [some (.tup [.tup (os.map obD), .int r]), some (.int n), some (.int o.1), some o.2], rfl, ?_⟩
    by_cases h : o.1 = n
    · rw [if_pos h] at c; exact .inl ⟨decide_eq_true h, c⟩
    · rw [if_neg h] at c; exact .inr ⟨decide_eq_false h, .inl c, _, _, rfl⟩) ⟨none, none, rfl⟩ with ⟨o, ρ', e1, e2⟩ | ⟨e1, ρ', e2, _⟩
  · exact .inl ⟨ρ', by unfold fnd; rw [e1]; exact e2⟩
  · exact .inr ⟨by unfold fnd; rw [e1]; rfl, ρ', e2⟩
theorem ge1_core (x0 x1 x5 : Option D) (cs ds : List Int) (d : D) (p : d.pure = true) : lp_get_1 [x0, x1, some (.tup (dInts cs)), some (.tup (dInts ds)), some d, x5] = if ds = cs then .rt d [x0, x1, some (.tup (dInts cs)), some (.tup (dInts ds)), some d, x5] else .nx [x0, x1, some (.tup (dInts cs)), some (.tup (dInts ds)), some d, x5] := by
  by_cases h : ds = cs
  · subst h; simp [lp_get_1, p]
  · simp [lp_get_1, h]
def ls (ps : List (List Int × D)) (cs : List Int) : Option D := (ps.find? fun p => decide (p.1 = cs)).map (·.2)
theorem get_lc (x0 x1 x2 x3 x4 : Option D) (x : Str) (hl : okS x) : lcL (gNm 5) tYes (eB gOrd (aV (eVar 5) (aNil))) [x0, x1, x2, x3, x4, none] (x.cps.toList.map fun c => .str ⟨#[c]⟩) [] = .ok (.lst true (dInts (cps x))) := by
  rw [lcL_map ordD _ (fun d hd => by
    obtain ⟨c, _, rfl⟩ := List.mem_map.mp hd
    refine ⟨_, rfl, rfl, ?_⟩
    simp [sign_len, ordD]) (by rw [List.length_map]; exact hl), ord_map]
theorem dict_in : gNotIn (.str (Str.ofString "dict")) (.tup [.str (Str.ofString "dict"), .str (Str.ofString "stream")]) = some (.bl false) := by
  have e : inB (.str (Str.ofString "dict")) (.tup [.str (Str.ofString "dict"), .str (Str.ofString "stream")]) = some ([Str.ofString "dict", Str.ofString "stream"].any (· == Str.ofString "dict")) := rfl
  unfold gNotIn
  rw [e]; simp
theorem dict_in' : gIn (.str (Str.ofString "dict")) (.tup [.str (Str.ofString "dict"), .str (Str.ofString "stream")]) = some (.bl true) := by
  have e : inB (.str (Str.ofString "dict")) (.tup [.str (Str.ofString "dict"), .str (Str.ofString "stream")]) = some ([Str.ofString "dict", Str.ofString "stream"].any (· == Str.ofString "dict")) := rfl
  unfold gIn
  rw [e]; simp
theorem get_end (ps : List D) (x : Str) (cs : List Int) (v : D) (pP : D.pureL ps = true) (hlc : lcL (gNm 5) tYes (eB gOrd (aV (eVar 5) (aNil))) [some (.tup [.str (Str.ofString "dict"), .tup ps]), some (.str x), none, none, none, none] (x.cps.toList.map fun c => .str ⟨#[c]⟩) [] = .ok (.lst true (dInts cs)))
    (h : (∃ ρ', forL (gTp (gsCons (gNm 3) (gsCons (gNm 4) (gsNil)))) lp_get_1 ps [some (.tup [.str (Str.ofString "dict"), .tup ps]), some (.str x), some (.tup (dInts cs)), none, none, none] = .rt v ρ') ∨ (v = .non ∧ ∃ ρ', forL (gTp (gsCons (gNm 3) (gsCons (gNm 4) (gsNil)))) lp_get_1 ps [some (.tup [.str (Str.ofString "dict"), .tup ps]), some (.str x), some (.tup (dInts cs)), none, none, none] = .nx ρ')) :
    d_get [.tup [.str (Str.ofString "dict"), .tup ps], .str x] = .ok v := by
  have g : gIs (.tup [.str (Str.ofString "dict"), .tup ps]) .non = some (.bl false) := rfl
  rcases h with ⟨ρ', h⟩ | ⟨rfl, ρ', h⟩
  · simp [d_get, b_get, fnD, ix0, ix1, pP, hlc, h, dict_in, g]
  · simp [d_get, b_get, fnD, ix0, ix1, pP, hlc, h, dict_in, g]
theorem m_get (ps : List (List Int × D)) (hp : ∀ p ∈ ps, p.2.pure = true) (x : Str) (hl : okS x) : d_get [dcD ps, .str x] = .ok ((ls ps (cps x)).getD .non) := by
  refine get_end _ x (cps x) _ (prs_pure ps hp) (get_lc _ _ _ _ _ x hl) ?_
  rcases for_find prD (g := gTp (gsCons (gNm 3) (gsCons (gNm 4) (gsNil)))) (b := lp_get_1) (fun p => decide (p.1 = cps x)) (fun o => o.2) (fun ρ => ∃ y z, ρ = [some (dcD ps), some (.str x), some (.tup (dInts (cps x))), y, z, none]) ps [some (dcD ps), some (.str x), some (.tup (dInts (cps x))), none, none, none] (fun o ho ρ H => by
    obtain ⟨y, z, rfl⟩ := H
    have c := ge1_core (some (dcD ps)) (some (.str x)) none (cps x) o.1 o.2 (hp o ho)
    refine ⟨_, [some (dcD ps), some (.str x), some (.tup (dInts (cps x))), some (.tup (dInts o.1)), some o.2, none], rfl, ?_⟩
    by_cases h : o.1 = cps x
    · rw [if_pos h] at c; exact .inl ⟨decide_eq_true h, c⟩
    · rw [if_neg h] at c; exact .inr ⟨decide_eq_false h, .inl c, _, _, rfl⟩) ⟨none, none, rfl⟩ with ⟨o, ρ', e1, e2⟩ | ⟨e1, ρ', e2, _⟩
  · exact .inl ⟨ρ', by unfold ls; rw [e1]; exact e2⟩
  · exact .inr ⟨by unfold ls; rw [e1]; rfl, ρ', e2⟩

end
set_option maxRecDepth 100000
set_option maxHeartbeats 4000000
open PySem PySem.Spec PyProof.Rows L2 Dv
noncomputable section
theorem p_cold {v : D} (h : v.pure = true) : v.cold = true := by
  have := D.pureL_cold [v] (by simp [h])
  simpa using this
theorem p_frz {v : D} (h : v.pure = true) : v.frz = v := by
  have := D.pureL_frzL [v] (by simp [h])
  simpa using this
inductive Stop : D → Prop
  | non : Stop .non
  | tag (t : Str) (r : List D) (h : (t == Str.ofString "ref") = false) (p : D.pureL r = true) : Stop (.tup (.str t :: r))
def fRet (x0 x3 x4 : Option D) (v : D) (l : Int) : SR := .rt (.tup [v, .int l]) [x0, some v, some (.int l), x3, x4]
theorem fo_stop (x0 x3 x4 : Option D) (v : D) (l : Int) (s : Stop v) : lp_follow_1 [x0, some v, some (.int l), x3, x4] = .rt (.tup [v, .int l]) [x0, some v, some (.int l), x3, x4] := by
  cases s with
  | non =>
    have g : gIs .non .non = some (.bl true) := rfl
    simp [lp_follow_1, g]
  | tag t r h p =>
    have g : gIs (.tup (.str t :: r)) .non = some (.bl false) := rfl
    have c := D.pureL_cold r p
    have n : gNe (.str t) (.str (Str.ofString "ref")) = some (.bl true) := by
      show some (D.bl (!(t == Str.ofString "ref"))) = _
      rw [h]; rfl
    simp [lp_follow_1, g, ix0, n, p]
theorem sp_one (l : Int) (h : 1 ≤ l) : d_spend [.int l, .int 1] = .ok (.tup [.int (l - 1), .bl true]) := by
  have g : ¬ l < 1 := by omega
  simp [d_spend, b_spend, fnD, g]
theorem fo_ref (B w : D) (x3 x4 : Option D) (n l l1 : Int) (pB : B.pure = true) (hs : d_spend [.int l, .int 1] = .ok (.tup [.int l1, .bl true])) (hf : d_find [B, .int n] = .ok w) : lp_follow_1 [some B, some (.tup [.str (Str.ofString "ref"), .int n]), some (.int l), x3, x4] = .nx [some B, some w, some (.int l1), x3, some (.bl true)] := by
  have g : gIs (.tup [.str (Str.ofString "ref"), .int n]) .non = some (.bl false) := rfl
  simp [lp_follow_1, callF, g, ix0, ix1, pB, hs, hf]
theorem fo_end (B v w : D) (l l' : Int) (h : ∃ ρ', forL (gNm 3) lp_follow_1 (rngL 0 64) [some B, some v, some (.int l), none, none] = .rt (.tup [w, .int l']) ρ') : d_follow [B, v, .int l] = .ok (.tup [w, .int l']) := by
  obtain ⟨ρ', h⟩ := h
  simp [d_follow, b_follow, fnD, c_MOST_STEPS, h]
theorem forL_rt {g : D → Dv.Env → Option Dv.Env} {b : Dv.Env → SR} {d v : D} {ds : List D} {ρ ρ1 ρ2 : Dv.Env} (e1 : g d ρ = some ρ1) (e2 : b ρ1 = .rt v ρ2) : forL g b (d :: ds) ρ = .rt v ρ2 := by
  rw [forL_cons, e1]
  simp only [e2]
theorem m_follow_stop (B v : D) (l : Int) (s : Stop v) : d_follow [B, v, .int l] = .ok (.tup [v, .int l]) := by
  refine fo_end B v v l l ?_
  unfold rngL
  rw [show List.range 64 = 0 :: List.range' 1 63 from by decide +kernel, List.map_cons]
  exact ⟨_, forL_rt rfl (fo_stop _ _ _ v l s)⟩
theorem m_follow_ref (B w : D) (n l : Int) (pB : B.pure = true) (h1 : 1 ≤ l) (hf : d_find [B, .int n] = .ok w) (s : Stop w) : d_follow [B, .tup [.str (Str.ofString "ref"), .int n], .int l] = .ok (.tup [w, .int (l - 1)]) := by
  refine fo_end B _ w l _ ?_
  unfold rngL
  rw [show List.range 64 = 0 :: 1 :: List.range' 2 62 from by decide +kernel, List.map_cons, List.map_cons]
  exact ⟨_, forL_nx rfl (fo_ref B w _ none n l _ pB (sp_one l h1) hf) (forL_rt rfl (fo_stop _ _ _ w (l - 1) s))⟩
def nz : D → D
  | .non => .tup [.str (Str.ofString "none")]
  | d => d
theorem look_core (B v w : D) (l : Int) (pB : B.pure = true) (pv : v.pure = true) (pw : w.pure = true) (h : d_follow [B, v, .int 1000] = .ok (.tup [w, .int l])) (s : Stop w) : d_look [B, v] = .ok (nz w) := by
  cases s with
  | non =>
    have g : gIs .non .non = some (.bl true) := rfl
    simp [d_look, b_look, fnD, callF, c_ENOUGH, c_NONE, pB, pv, h, g, nz]
  | tag t r hh p =>
    have g : gIs (.tup (.str t :: r)) .non = some (.bl false) := rfl
    have c := D.pureL_cold r p
    have f := D.pureL_frzL r p
    simp [d_look, b_look, fnD, callF, c_ENOUGH, c_NONE, pB, pv, h, g, p, c, f, nz]
/-! references -/
def vOf (n : Int) : Lf := if 7 ≤ n ∧ n ≤ 11 then .int (3 * (n - 5) - 7) else .none
def lkF : Lf → Lf
  | .ref n => vOf n
  | v => v
def okL : Lf → Prop
  | .ref n => n ≠ 1
  | .int n => -5000000000 ≤ n ∧ n ≤ 5000000000
  | .name _ => True
  | _ => True
theorem fnd_ref (rows : List Row) (n : Int) (h : n ≠ 1) : nz (fnd (objs rows) n) = lD (vOf n) ∧ Stop (fnd (objs rows) n) ∧ (fnd (objs rows) n).pure = true := by
  unfold objs
  rw [show List.range 5 = [0, 1, 2, 3, 4] from rfl]
  unfold fnd
  have e : ∀ n : Int, (n = 7 ∨ n = 8 ∨ n = 9 ∨ n = 10 ∨ n = 11) ∨ ¬ (7 ≤ n ∧ n ≤ 11) := fun n => by omega
  have hi : (Str.ofString "int" == Str.ofString "ref") = false := by decide +kernel
  rcases e n with (rfl | rfl | rfl | rfl | rfl) | e
  · exact ⟨rfl, .tag _ _ hi rfl, rfl⟩
  · exact ⟨rfl, .tag _ _ hi rfl, rfl⟩
  · exact ⟨rfl, .tag _ _ hi rfl, rfl⟩
  · exact ⟨rfl, .tag _ _ hi rfl, rfl⟩
  · exact ⟨rfl, .tag _ _ hi rfl, rfl⟩
  · have : ((1, rootD rows) :: [0, 1, 2, 3, 4].map fun k : Nat => (7 + (k : Int), D.tup [.str (Str.ofString "int"), .int (3 * (2 + (k : Int)) - 7)])).find? (fun o => decide (o.1 = n)) = none := by
      refine List.find?_eq_none.mpr fun o ho => ?_
      simp only [List.map_cons, List.map_nil, List.mem_cons, List.not_mem_nil, or_false] at ho
      rcases ho with rfl | rfl | rfl | rfl | rfl | rfl <;> simp <;> omega
    rw [this]
    unfold vOf
    rw [if_neg e]
    exact ⟨rfl, .non, rfl⟩
theorem lD_stop (v : Lf) (h : ∀ n, v ≠ .ref n) : Stop (lD v) ∧ nz (lD v) = lD v := by
  have t1 : (Str.ofString "none" == Str.ofString "ref") = false := by decide +kernel
  have t2 : (Str.ofString "text" == Str.ofString "ref") = false := by decide +kernel
  have t3 : (Str.ofString "bool" == Str.ofString "ref") = false := by decide +kernel
  have t4 : (Str.ofString "name" == Str.ofString "ref") = false := by decide +kernel
  have t5 : (Str.ofString "int" == Str.ofString "ref") = false := by decide +kernel
  have t6 : (Str.ofString "list" == Str.ofString "ref") = false := by decide +kernel
  cases v with
  | ref n => exact absurd rfl (h n)
  | none => exact ⟨.tag _ _ t1 rfl, rfl⟩
  | text => exact ⟨.tag _ _ t2 rfl, rfl⟩
  | bol => exact ⟨.tag _ _ t3 rfl, rfl⟩
  | name cs => exact ⟨.tag _ _ t4 (by simp), rfl⟩
  | int n => exact ⟨.tag _ _ t5 rfl, rfl⟩
  | lst => exact ⟨.tag _ _ t6 rfl, rfl⟩
theorem dc_stop (ps : List (List Int × D)) (h : ∀ p ∈ ps, p.2.pure = true) : Stop (dcD ps) ∧ nz (dcD ps) = dcD ps := ⟨.tag _ _ (by decide +kernel) (by have := prs_pure ps h; simp [this]), rfl⟩
theorem m_look (rows : List Row) (v : Lf) (ok : okL v) : d_look [bookD rows, lD v] = .ok (lD (lkF v)) := by
  have pB := bookD_pure rows
  by_cases h : ∃ n, v = .ref n
  · obtain ⟨n, rfl⟩ := h
    obtain ⟨a, b, c⟩ := fnd_ref rows n ok
    have f := m_find (objs rows) (objs_pure rows) 1 n
    have := look_core (bookD rows) (lD (.ref n)) (fnd (objs rows) n) _ pB rfl c (m_follow_ref (bookD rows) _ n 1000 pB (by omega) f b) b
    rw [a] at this; exact this
  · have h' : ∀ n, v ≠ .ref n := fun n e => h ⟨n, e⟩
    obtain ⟨a, b⟩ := lD_stop v h'
    have := look_core (bookD rows) (lD v) (lD v) _ pB (lD_pure v) (lD_pure v) (m_follow_stop _ _ _ a) a
    rw [b] at this
    rw [this]
    cases v <;> first | rfl | exact absurd rfl (h' _)
theorem m_look_non (rows : List Row) : d_look [bookD rows, .non] = .ok (lD .none) :=
  look_core (bookD rows) .non .non _ (bookD_pure rows) rfl rfl (m_follow_stop _ _ _ .non) .non
theorem m_look_dc (rows : List Row) (ps : List (List Int × D)) (h : ∀ p ∈ ps, p.2.pure = true) : d_look [bookD rows, dcD ps] = .ok (dcD ps) := by
  obtain ⟨a, b⟩ := dc_stop ps h
  have := look_core (bookD rows) (dcD ps) (dcD ps) _ (bookD_pure rows) (dcD_pure ps h) (dcD_pure ps h) (m_follow_stop _ _ _ a) a
  rw [b] at this; exact this
theorem m_look_rD (rows : List Row) (v : RV) : d_look [bookD rows, rD v] = .ok (rD v) := by
  cases v with
  | dct ps => exact m_look_dc rows _ (lPs_pure ps)
  | lst => exact m_look rows .lst trivial
/-! key -/
def kF (ps : Rw) (cs : List Int) : Lf := match ps.find? (fun p => decide (p.1 = cs)) with
  | some p => lkF p.2
  | none => .none
theorem ls_lPs : ∀ (ps : Rw) (cs : List Int), ls (lPs ps) cs = (ps.find? (fun p => decide (p.1 = cs))).map fun p => lD p.2
  | [], _ => rfl
  | p :: ps, cs => by
    have ih := ls_lPs ps cs
    unfold ls lPs at ih ⊢
    rw [List.map_cons, List.find?_cons, List.find?_cons]
    cases decide (p.1 = cs) with
    | true => rfl
    | false => exact ih
theorem key_core (B P v w : D) (x : Str) (pB : B.pure = true) (pP : P.pure = true) (pv : v.pure = true) (h1 : d_get [P, .str x] = .ok v) (h2 : d_look [B, v] = .ok w) : d_key [B, P, .str x] = .ok w := by
  simp [d_key, b_key, fnD, callF, pB, pP, pv, p_cold pv, p_frz pv, h1, h2]
def okR (ps : Rw) : Prop := ∀ p ∈ ps, okL p.2
theorem m_key (rows : List Row) (ps : Rw) (ok : okR ps) (x : Str) (hx : okS x) : d_key [bookD rows, rwD ps, .str x] = .ok (lD (kF ps (cps x))) := by
  have g := m_get (lPs ps) (lPs_pure ps) x hx
  rw [ls_lPs] at g
  unfold kF
  cases e : ps.find? (fun p => decide (p.1 = cps x)) with
  | none =>
    rw [e] at g
    exact key_core _ _ .non _ x (bookD_pure rows) (dcD_pure _ (lPs_pure ps)) rfl g (m_look_non rows)
  | some p =>
    rw [e] at g
    exact key_core _ _ (lD p.2) _ x (bookD_pure rows) (dcD_pure _ (lPs_pure ps)) (lD_pure _) g (m_look rows p.2 (ok p (List.mem_of_find?_eq_some e)))
theorem root_core (B R w : D) (os : List D) (pB : B.pure = true) (hB : B = .tup [.tup os, .int 1]) (pO : D.pureL os = true) (pR : R.pure = true) (h1 : d_find [B, .int 1] = .ok R) (h2 : d_look [B, R] = .ok w) : d_root_of [B] = .ok w := by
  subst hB
  simp [d_root_of, b_root_of, fnD, callF, pO, pR, p_cold pR, p_frz pR, ix1, h1, h2]
theorem m_root_of (rows : List Row) : d_root_of [bookD rows] = .ok (rootD rows) :=
  root_core _ (rootD rows) _ _ (bookD_pure rows) rfl (obs_pure _ (objs_pure rows)) (rootD_pure rows) (m_find (objs rows) (objs_pure rows) 1 1) (m_look_dc rows _ (root_ps rows))
theorem m_key_styles (rows : List Row) : d_key [bookD rows, rootD rows, .str (Str.ofString "Styles")] = .ok (stylesD rows) := by
  have g := m_get _ (root_ps rows) (Str.ofString "Styles") (by unfold okS; decide +kernel)
  have e : ls [(cps (Str.ofString "Styles"), stylesD rows), (cps (Str.ofString "Pages"), lD .lst)] (cps (Str.ofString "Styles")) = some (stylesD rows) := by
    unfold ls
    rw [List.find?_cons, decide_eq_true rfl]; rfl
  rw [e] at g
  exact key_core _ _ (stylesD rows) _ _ (bookD_pure rows) (rootD_pure rows) (stylesD_pure rows) g (m_look_dc rows _ (sty_pure rows))

end
set_option maxRecDepth 100000
set_option maxHeartbeats 4000000
open PySem PySem.Spec PyProof.Rows L2 Dv
noncomputable section
@[simp] theorem ne_none_name : (Str.ofString "none" == Str.ofString "name") = false := by decide +kernel
@[simp] theorem nf_none_name : (Str.ofString "none" = Str.ofString "name") = False := eq_false (by decide +kernel)
@[simp] theorem ne_none_int : (Str.ofString "none" == Str.ofString "int") = false := by decide +kernel
@[simp] theorem nf_none_int : (Str.ofString "none" = Str.ofString "int") = False := eq_false (by decide +kernel)
@[simp] theorem ne_none_dict : (Str.ofString "none" == Str.ofString "dict") = false := by decide +kernel
@[simp] theorem nf_none_dict : (Str.ofString "none" = Str.ofString "dict") = False := eq_false (by decide +kernel)
@[simp] theorem ne_none_ref : (Str.ofString "none" == Str.ofString "ref") = false := by decide +kernel
@[simp] theorem nf_none_ref : (Str.ofString "none" = Str.ofString "ref") = False := eq_false (by decide +kernel)
@[simp] theorem ne_text_name : (Str.ofString "text" == Str.ofString "name") = false := by decide +kernel
@[simp] theorem nf_text_name : (Str.ofString "text" = Str.ofString "name") = False := eq_false (by decide +kernel)
@[simp] theorem ne_text_int : (Str.ofString "text" == Str.ofString "int") = false := by decide +kernel
@[simp] theorem nf_text_int : (Str.ofString "text" = Str.ofString "int") = False := eq_false (by decide +kernel)
@[simp] theorem ne_text_dict : (Str.ofString "text" == Str.ofString "dict") = false := by decide +kernel
@[simp] theorem nf_text_dict : (Str.ofString "text" = Str.ofString "dict") = False := eq_false (by decide +kernel)
@[simp] theorem ne_text_ref : (Str.ofString "text" == Str.ofString "ref") = false := by decide +kernel
@[simp] theorem nf_text_ref : (Str.ofString "text" = Str.ofString "ref") = False := eq_false (by decide +kernel)
@[simp] theorem ne_ref_name : (Str.ofString "ref" == Str.ofString "name") = false := by decide +kernel
@[simp] theorem nf_ref_name : (Str.ofString "ref" = Str.ofString "name") = False := eq_false (by decide +kernel)
@[simp] theorem ne_ref_int : (Str.ofString "ref" == Str.ofString "int") = false := by decide +kernel
@[simp] theorem nf_ref_int : (Str.ofString "ref" = Str.ofString "int") = False := eq_false (by decide +kernel)
@[simp] theorem ne_ref_dict : (Str.ofString "ref" == Str.ofString "dict") = false := by decide +kernel
@[simp] theorem nf_ref_dict : (Str.ofString "ref" = Str.ofString "dict") = False := eq_false (by decide +kernel)
@[simp] theorem ne_bool_name : (Str.ofString "bool" == Str.ofString "name") = false := by decide +kernel
@[simp] theorem nf_bool_name : (Str.ofString "bool" = Str.ofString "name") = False := eq_false (by decide +kernel)
@[simp] theorem ne_bool_int : (Str.ofString "bool" == Str.ofString "int") = false := by decide +kernel
@[simp] theorem nf_bool_int : (Str.ofString "bool" = Str.ofString "int") = False := eq_false (by decide +kernel)
@[simp] theorem ne_bool_dict : (Str.ofString "bool" == Str.ofString "dict") = false := by decide +kernel
@[simp] theorem nf_bool_dict : (Str.ofString "bool" = Str.ofString "dict") = False := eq_false (by decide +kernel)
@[simp] theorem ne_bool_ref : (Str.ofString "bool" == Str.ofString "ref") = false := by decide +kernel
@[simp] theorem nf_bool_ref : (Str.ofString "bool" = Str.ofString "ref") = False := eq_false (by decide +kernel)
@[simp] theorem ne_name_int : (Str.ofString "name" == Str.ofString "int") = false := by decide +kernel
@[simp] theorem nf_name_int : (Str.ofString "name" = Str.ofString "int") = False := eq_false (by decide +kernel)
@[simp] theorem ne_name_dict : (Str.ofString "name" == Str.ofString "dict") = false := by decide +kernel
@[simp] theorem nf_name_dict : (Str.ofString "name" = Str.ofString "dict") = False := eq_false (by decide +kernel)
@[simp] theorem ne_name_ref : (Str.ofString "name" == Str.ofString "ref") = false := by decide +kernel
@[simp] theorem nf_name_ref : (Str.ofString "name" = Str.ofString "ref") = False := eq_false (by decide +kernel)
@[simp] theorem ne_int_name : (Str.ofString "int" == Str.ofString "name") = false := by decide +kernel
@[simp] theorem nf_int_name : (Str.ofString "int" = Str.ofString "name") = False := eq_false (by decide +kernel)
@[simp] theorem ne_int_dict : (Str.ofString "int" == Str.ofString "dict") = false := by decide +kernel
@[simp] theorem nf_int_dict : (Str.ofString "int" = Str.ofString "dict") = False := eq_false (by decide +kernel)
@[simp] theorem ne_int_ref : (Str.ofString "int" == Str.ofString "ref") = false := by decide +kernel
@[simp] theorem nf_int_ref : (Str.ofString "int" = Str.ofString "ref") = False := eq_false (by decide +kernel)
@[simp] theorem ne_list_name : (Str.ofString "list" == Str.ofString "name") = false := by decide +kernel
@[simp] theorem nf_list_name : (Str.ofString "list" = Str.ofString "name") = False := eq_false (by decide +kernel)
@[simp] theorem ne_list_int : (Str.ofString "list" == Str.ofString "int") = false := by decide +kernel
@[simp] theorem nf_list_int : (Str.ofString "list" = Str.ofString "int") = False := eq_false (by decide +kernel)
@[simp] theorem ne_list_dict : (Str.ofString "list" == Str.ofString "dict") = false := by decide +kernel
@[simp] theorem nf_list_dict : (Str.ofString "list" = Str.ofString "dict") = False := eq_false (by decide +kernel)
@[simp] theorem ne_list_ref : (Str.ofString "list" == Str.ofString "ref") = false := by decide +kernel
@[simp] theorem nf_list_ref : (Str.ofString "list" = Str.ofString "ref") = False := eq_false (by decide +kernel)
@[simp] theorem ne_dict_name : (Str.ofString "dict" == Str.ofString "name") = false := by decide +kernel
@[simp] theorem nf_dict_name : (Str.ofString "dict" = Str.ofString "name") = False := eq_false (by decide +kernel)
@[simp] theorem ne_dict_int : (Str.ofString "dict" == Str.ofString "int") = false := by decide +kernel
@[simp] theorem nf_dict_int : (Str.ofString "dict" = Str.ofString "int") = False := eq_false (by decide +kernel)
@[simp] theorem ne_dict_ref : (Str.ofString "dict" == Str.ofString "ref") = false := by decide +kernel
@[simp] theorem nf_dict_ref : (Str.ofString "dict" = Str.ofString "ref") = False := eq_false (by decide +kernel)

def rowOf (rows : List Row) (cs : List Int) : Option RV := (rows.find? fun r => decide (cps r.1 = cs)).map (·.2)
def oneD : Option RV → D
  | some v => rD v
  | none => lD .none
theorem kb1_core (B P d w : D) (cs ds : List Int) (pB : B.pure = true) (pd : d.pure = true) (h : d_look [B, d] = .ok w) : lp_key_of_bytes_1 [some B, some P, some (.tup (dInts cs)), some (.tup (dInts ds)), some d] = if ds = cs then .rt w [some B, some P, some (.tup (dInts cs)), some (.tup (dInts ds)), some d] else .nx [some B, some P, some (.tup (dInts cs)), some (.tup (dInts ds)), some d] := by
  by_cases e : ds = cs
  · subst e; simp [lp_key_of_bytes_1, callF, pB, pd, h]
  · simp [lp_key_of_bytes_1, e]
theorem kob_end (B : D) (ps : List D) (cs : List Int) (v : D) (pP : D.pureL ps = true)
    (h : (∃ ρ', forL (gTp (gsCons (gNm 3) (gsCons (gNm 4) (gsNil)))) lp_key_of_bytes_1 ps [some B, some (.tup [.str (Str.ofString "dict"), .tup ps]), some (.tup (dInts cs)), none, none] = .rt v ρ') ∨ (v = .tup [.str (Str.ofString "none")] ∧ ∃ ρ', forL (gTp (gsCons (gNm 3) (gsCons (gNm 4) (gsNil)))) lp_key_of_bytes_1 ps [some B, some (.tup [.str (Str.ofString "dict"), .tup ps]), some (.tup (dInts cs)), none, none] = .nx ρ')) :
    d_key_of_bytes [B, .tup [.str (Str.ofString "dict"), .tup ps], .tup (dInts cs)] = .ok v := by
  rcases h with ⟨ρ', h⟩ | ⟨rfl, ρ', h⟩
  · simp [d_key_of_bytes, b_key_of_bytes, fnD, ix0, ix1, pP, h, dict_in']
  · simp [d_key_of_bytes, b_key_of_bytes, fnD, c_NONE, ix0, ix1, pP, h, dict_in']
theorem m_kob (rows : List Row) (cs : List Int) : d_key_of_bytes [bookD rows, stylesD rows, .tup (dInts cs)] = .ok (oneD (rowOf rows cs)) := by
  refine kob_end (bookD rows) _ cs _ (prs_pure _ (sty_pure rows)) ?_
  have e0 : (rows.map fun r => (cps r.1, rD r.2)).map prD = rows.map fun r => prD (cps r.1, rD r.2) := by rw [List.map_map]; rfl
  rw [e0]
  rcases for_find (fun r : Row => prD (cps r.1, rD r.2)) (g := gTp (gsCons (gNm 3) (gsCons (gNm 4) (gsNil)))) (b := lp_key_of_bytes_1) (fun r => decide (cps r.1 = cs)) (fun r => rD r.2) (fun ρ => ∃ y z, ρ = [some (bookD rows), some (.tup [.str (Str.ofString "dict"), .tup (rows.map fun r => prD (cps r.1, rD r.2))]), some (.tup (dInts cs)), y, z]) rows [some (bookD rows), some (.tup [.str (Str.ofString "dict"), .tup (rows.map fun r => prD (cps r.1, rD r.2))]), some (.tup (dInts cs)), none, none] (fun r hr ρ H => by
    obtain ⟨y, z, rfl⟩ := H
    have c := kb1_core (bookD rows) (.tup [.str (Str.ofString "dict"), .tup (rows.map fun r => prD (cps r.1, rD r.2))]) (rD r.2) _ cs (cps r.1) (bookD_pure rows) (rD_pure r.2) (m_look_rD rows r.2)
    refine ⟨_, [some (bookD rows), some (.tup [.str (Str.ofString "dict"), .tup (rows.map fun r => prD (cps r.1, rD r.2))]), some (.tup (dInts cs)), some (.tup (dInts (cps r.1))), some (rD r.2)], rfl, ?_⟩
    by_cases h : cps r.1 = cs
    · rw [if_pos h] at c; exact .inl ⟨decide_eq_true h, c⟩
    · rw [if_neg h] at c; exact .inr ⟨decide_eq_false h, .inl c, _, _, rfl⟩) ⟨none, none, rfl⟩ with ⟨r, ρ', e1, e2⟩ | ⟨e1, ρ', e2, _⟩
  · refine .inl ⟨ρ', ?_⟩
    unfold rowOf
    rw [e1]; exact e2
  · refine .inr ⟨?_, ρ', e2⟩
    unfold rowOf
    rw [e1]; rfl
def nmOf : Lf → List Int
  | .name cs => cs
  | _ => []
theorem m_data_of (v : Lf) : d_data_of [lD v, .str (Str.ofString "name")] = .ok (.tup (dInts (nmOf v))) := by
  cases v <;> simp [d_data_of, b_data_of, fnD, lD, ix0, ix1, nmOf]
/-! the chain of styles -/
def kParent : Str := Str.ofString "Parent"
def chF (rows : List Row) : Nat → List Int → List (List Int) → List Rw
  | 0, _, _ => []
  | n + 1, cs, seen => if cs ∈ seen then [] else match rowOf rows cs with
    | some (.dct ps) => ps :: (if nmOf (kF ps (cps kParent)) = [] then [] else chF rows n (nmOf (kF ps (cps kParent))) (seen ++ [cs]))
    | _ => []
def tcD (cs : List Int) : D := .tup (dInts cs)
theorem gEq_nil (p : List Int) : gEq (.tup (dInts p)) (.tup []) = some (.bl (decide (p = []))) := by
  have := gEq_tints p []
  rw [show D.tup [] = D.tup (dInts []) from rfl, this]
  congr 2
  cases p <;> rfl
theorem sd_stop (B S one : D) (cs : List Int) (F N : List D) (z5 : Option D) (pB : B.pure = true) (pS : S.pure = true) (po : one.pure = true) (t : Str) (r : List D) (ho : one = .tup (.str t :: r)) (ht : (t == Str.ofString "dict") = false) (h : d_key_of_bytes [B, S, .tup (dInts cs)] = .ok one) :
    lp_style_dicts_1 [some B, some (.tup (dInts cs)), some S, some (.lst true F), some (.lst true N), z5] = .bk [some B, some (.tup (dInts cs)), some S, some (.lst true F), some (.lst true N), some one] := by
  subst ho
  have n : gNe (.str t) (.str (Str.ofString "dict")) = some (.bl true) := by
    show some (D.bl (!(t == Str.ofString "dict"))) = _
    rw [ht]; rfl
  simp [lp_style_dicts_1, callF, pB, pS, h, ix0, n]
theorem sd_go (B S w : D) (ps : List D) (cs p : List Int) (F N : List D) (z5 : Option D) (pB : B.pure = true) (pS : S.pure = true) (pp : D.pureL ps = true) (pw : w.pure = true) (h : d_key_of_bytes [B, S, .tup (dInts cs)] = .ok (.tup [.str (Str.ofString "dict"), .tup ps])) (lF : F.length < 1000) (lN : N.length < 1000)
    (hk : d_key [B, .tup [.str (Str.ofString "dict"), .tup ps], .str (Str.ofString "Parent")] = .ok w) (hd : d_data_of [w, .str (Str.ofString "name")] = .ok (.tup (dInts p))) :
    lp_style_dicts_1 [some B, some (.tup (dInts cs)), some S, some (.lst true F), some (.lst true N), z5] = if p = [] then .bk [some B, some (.tup (dInts p)), some S, some (.lst true (F ++ [.tup [.str (Str.ofString "dict"), .tup ps]])), some (.lst true (N ++ [.tup (dInts cs)])), some (.tup [.str (Str.ofString "dict"), .tup ps])]
      else .nx [some B, some (.tup (dInts p)), some S, some (.lst true (F ++ [.tup [.str (Str.ofString "dict"), .tup ps]])), some (.lst true (N ++ [.tup (dInts cs)])), some (.tup [.str (Str.ofString "dict"), .tup ps])] := by
  have l1 : F.length < 16777216 := by omega
  have l2 : N.length < 16777216 := by omega
  have cP := D.pureL_cold ps pp
  have fP := D.pureL_frzL ps pp
  have ge := gEq_nil p
  by_cases e : p = []
  · subst e; simp [lp_style_dicts_1, callF, pB, pS, h, ix0, pp, frzAt, cP, fP, l1, l2, onL, hk, hd, pw, p_cold pw, p_frz pw] at ge ⊢
    simp [ge]
  · simp [lp_style_dicts_1, callF, pB, pS, h, ix0, pp, frzAt, cP, fP, l1, l2, onL, hk, hd, pw, p_cold pw, p_frz pw, ge, e]
theorem seen_any (cs : List Int) : ∀ seen : List (List Int), ((seen.map tcD).any fun y => y.eqv (tcD cs)) = decide (cs ∈ seen)
  | [] => rfl
  | s :: seen => by
    rw [List.map_cons, List.any_cons, seen_any cs seen]
    have e : D.eqv (tcD s) (tcD cs) = decide (cs = s) := by
      unfold D.eqv
      show PyData.eqv (.tuple (D.toPL (dInts s))) (.tuple (D.toPL (dInts cs))) = _
      rw [PyData.eqv, dInts_eqvAll]
      by_cases h : cs = s
      · subst h; simp
      · rw [decide_eq_false h]; exact beq_false_of_ne fun z => h z.symm
    rw [e]
    by_cases h : cs = s
    · subst h; simp
    · rw [decide_eq_false h, Bool.false_or]
      by_cases g : cs ∈ seen
      · rw [decide_eq_true g, decide_eq_true (List.mem_cons_of_mem _ g)]
      · rw [decide_eq_false g, decide_eq_false (by rw [List.mem_cons]; exact fun z => z.elim h g)]
theorem seen_lay : ∀ (k : Nat) (seen : List (List Int)), D.layL (k + 1) (seen.map tcD) = true
  | k, [] => rfl
  | k, s :: seen => by rw [List.map_cons, layL_cons, seen_lay k seen, show D.lay (k + 1) (tcD s) = true from dInts_lay k s]; rfl
theorem in_seen (o : Bool) (cs : List Int) (seen : List (List Int)) : inB (.tup (dInts cs)) (.lst o (seen.map tcD)) = some (decide (cs ∈ seen)) := by
  have h1 : D.lay 60 (.tup (dInts cs)) = true := dInts_lay 59 cs
  have h2 : D.lay 60 (.lst o (seen.map tcD)) = true := seen_lay 58 seen
  rw [← seen_any]
  show (if D.lay 60 (.tup (dInts cs)) = true ∧ D.lay 60 (.lst o (seen.map tcD)) = true then some _ else none) = _
  rw [if_pos ⟨h1, h2⟩]; rfl
theorem tw_core (B S : D) (cs : List Int) (F : List D) (seen : List (List Int)) (z5 : Option D) (n : Int) (hn : (F.length : Int) = n) : tw_style_dicts_1 [some B, some (.tup (dInts cs)), some S, some (.lst true F), some (.lst true (seen.map tcD)), z5] = .ok (decide (n < 8) && !decide (cs ∈ seen)) := by
  have g : gNotIn (.tup (dInts cs)) (.lst true (seen.map tcD)) = some (.bl (!decide (cs ∈ seen))) := by unfold gNotIn; rw [in_seen]; rfl
  by_cases h : n < 8
  · simp [tw_style_dicts_1, c_MOST_STYLES, hn, h, g]
  · simp [tw_style_dicts_1, c_MOST_STYLES, hn, h]

end
set_option maxRecDepth 100000
set_option maxHeartbeats 4000000
open PySem PySem.Spec PyProof.Rows L2 Dv
noncomputable section
theorem for_find2 {α : Type} (f : α → D) {g : D → Dv.Env → Option Dv.Env} {b : Dv.Env → SR} (p : α → Bool) (r : α → D) (I : Dv.Env → Prop) (as : List α) (ρ : Dv.Env)
    (hs : ∀ a ∈ as, ∀ ρ, I ρ → ∃ ρ1 ρ2, g (f a) ρ = some ρ1 ∧ b ρ1 = (if p a = true then .rt (r a) ρ2 else .nx ρ2) ∧ I ρ2) (h : I ρ) :
    (∃ a ρ', as.find? p = some a ∧ forL g b (as.map f) ρ = .rt (r a) ρ') ∨ (as.find? p = none ∧ ∃ ρ', forL g b (as.map f) ρ = .nx ρ' ∧ I ρ') :=
  for_find f p r I as ρ (fun a ha ρ hρ => by
    obtain ⟨ρ1, ρ2, e1, e2, e3⟩ := hs a ha ρ hρ
    refine ⟨ρ1, ρ2, e1, ?_⟩
    cases hp : p a with
    | true => rw [hp, if_pos rfl] at e2; exact .inl ⟨rfl, e2⟩
    | false => rw [hp, if_neg Bool.false_ne_true] at e2; exact .inr ⟨rfl, .inl e2, e3⟩) h

def okRV : RV → Prop
  | .dct ps => okR ps
  | .lst => True
def okRows (rows : List Row) : Prop := ∀ r ∈ rows, okRV r.2
theorem rowOf_ok {rows : List Row} (ok : okRows rows) {cs : List Int} {v : RV} (h : rowOf rows cs = some v) : okRV v := by
  unfold rowOf at h
  cases e : rows.find? (fun r => decide (cps r.1 = cs)) with
  | none => rw [e] at h; cases h
  | some r => rw [e] at h; cases h; exact ok r (List.mem_of_find?_eq_some e)
theorem sw_stop {t : Dv.Env → R Bool} {b : Dv.Env → SR} {ρ : Dv.Env} (h : t ρ = .ok false) : sWhile t b ρ = .nx ρ := by
  rw [sWhile_eq, h]; simp
theorem sw_nx {t : Dv.Env → R Bool} {b : Dv.Env → SR} {ρ ρ2 : Dv.Env} (h : t ρ = .ok true) (e : b ρ = .nx ρ2) : sWhile t b ρ = sWhile t b ρ2 := by
  rw [sWhile_eq, h]; simp [e]
theorem sw_bk {t : Dv.Env → R Bool} {b : Dv.Env → SR} {ρ ρ2 : Dv.Env} (h : t ρ = .ok true) (e : b ρ = .bk ρ2) : sWhile t b ρ = .nx ρ2 := by
  rw [sWhile_eq, h]; simp [e]
theorem okParent : okS (Str.ofString "Parent") := by unfold okS; decide +kernel
theorem sd_loop (rows : List Row) (ok : okRows rows) : ∀ (n : Nat) (cs : List Int) (seen : List (List Int)) (F : List Rw) (z5 : Option D), F.length + n = 8 → seen.length ≤ F.length →
    ∃ z1 z4 z5', sWhile tw_style_dicts_1 lp_style_dicts_1 [some (bookD rows), some (.tup (dInts cs)), some (stylesD rows), some (.lst true (F.map rwD)), some (.lst true (seen.map tcD)), z5] = .nx [some (bookD rows), z1, some (stylesD rows), some (.lst true ((F ++ chF rows n cs seen).map rwD)), z4, z5']
  | 0, cs, seen, F, z5, hl, hs => by
    have t := tw_core (bookD rows) (stylesD rows) cs (F.map rwD) seen z5 8 (by rw [List.length_map]; omega)
    exact ⟨_, _, _, by rw [sw_stop t, chF, List.append_nil]⟩
  | n + 1, cs, seen, F, z5, hl, hs => by
    have t := tw_core (bookD rows) (stylesD rows) cs (F.map rwD) seen z5 F.length (by rw [List.length_map])
    rw [decide_eq_true (show (F.length : Int) < 8 by omega), Bool.true_and] at t
    by_cases hi : cs ∈ seen
    · rw [decide_eq_true hi] at t
      exact ⟨_, _, _, by rw [sw_stop t, chF, if_pos hi, List.append_nil]⟩
    · rw [decide_eq_false hi] at t
      have hk := m_kob rows cs
      have pB := bookD_pure rows
      have pS := stylesD_pure rows
      cases hr : rowOf rows cs with
      | none =>
        rw [hr] at hk
        have s := sd_stop (bookD rows) (stylesD rows) (lD .none) cs (F.map rwD) (seen.map tcD) z5 pB pS rfl (Str.ofString "none") [] rfl (by decide +kernel) hk
        exact ⟨_, _, _, by rw [sw_bk t s, chF, if_neg hi, hr, List.append_nil]⟩
      | some v =>
        rw [hr] at hk
        cases v with
        | lst =>
          have s := sd_stop (bookD rows) (stylesD rows) (lD .lst) cs (F.map rwD) (seen.map tcD) z5 pB pS rfl (Str.ofString "list") [.tup []] rfl (by decide +kernel) hk
          exact ⟨_, _, _, by rw [sw_bk t s, chF, if_neg hi, hr, List.append_nil]⟩
        | dct ps =>
          have okp : okR ps := rowOf_ok ok hr
          have kk := m_key rows ps okp (Str.ofString "Parent") okParent
          have s := sd_go (bookD rows) (stylesD rows) _ ((lPs ps).map prD) cs (nmOf (kF ps (cps kParent))) (F.map rwD) (seen.map tcD) z5 pB pS (prs_pure _ (lPs_pure ps)) (lD_pure _) hk (by rw [List.length_map]; omega) (by rw [List.length_map]; omega) kk (m_data_of _)
          have eF : F.map rwD ++ [D.tup [.str (Str.ofString "dict"), .tup ((lPs ps).map prD)]] = (F ++ [ps]).map rwD := by rw [List.map_append]; rfl
          have eN : seen.map tcD ++ [D.tup (dInts cs)] = (seen ++ [cs]).map tcD := by rw [List.map_append]; rfl
          rw [eF, eN] at s
          by_cases e : nmOf (kF ps (cps kParent)) = []
          · rw [if_pos e] at s
            exact ⟨_, _, _, by rw [sw_bk t s, chF, if_neg hi, hr]; simp only; rw [if_pos e]⟩
          · rw [if_neg e] at s
            obtain ⟨z1, z4, z5', h⟩ := sd_loop rows ok n (nmOf (kF ps (cps kParent))) (seen ++ [cs]) (F ++ [ps]) _ (by rw [List.length_append]; simp; omega) (by rw [List.length_append, List.length_append]; simp; omega)
            refine ⟨z1, z4, z5', ?_⟩
            rw [sw_nx t s, h, chF, if_neg hi, hr]
            simp only
            rw [if_neg e, List.append_assoc]; rfl
theorem sd_end (B R S : D) (cs : List Int) (L : List D) (z1 z4 z5 : Option D) (pB : B.pure = true) (pR : R.pure = true) (h1 : d_root_of [B] = .ok R) (h2 : d_key [B, R, .str (Str.ofString "Styles")] = .ok S)
    (h : sWhile tw_style_dicts_1 lp_style_dicts_1 [some B, some (.tup (dInts cs)), some S, some (.lst true []), some (.lst true []), none] = .nx [some B, z1, some S, some (.lst true L), z4, z5]) : d_style_dicts [B, .tup (dInts cs)] = .ok (.lst true L) := by
  simp [d_style_dicts, b_style_dicts, fnD, callF, pB, pR, p_cold pR, p_frz pR, h1, h2, h]
theorem m_style_dicts (rows : List Row) (ok : okRows rows) (cs : List Int) : d_style_dicts [bookD rows, .tup (dInts cs)] = .ok (.lst true ((chF rows 8 cs []).map rwD)) := by
  obtain ⟨z1, z4, z5, h⟩ := sd_loop rows ok 8 cs [] [] none rfl (by simp)
  exact sd_end _ _ _ cs _ z1 z4 z5 (bookD_pure rows) (rootD_pure rows) (m_root_of rows) (m_key_styles rows) h
/-! the first that fits -/
def okDs (ds : List Rw) : Prop := ∀ ps ∈ ds, okR ps
theorem chF_ok (rows : List Row) (ok : okRows rows) : ∀ (n : Nat) (cs : List Int) (seen : List (List Int)), okDs (chF rows n cs seen)
  | 0, _, _ => by intro ps h; cases h
  | n + 1, cs, seen => by
    rw [chF]
    split
    · intro ps h; cases h
    · split
      · rename_i ps e
        intro qs hq
        rcases List.mem_cons.mp hq with rfl | hq
        · exact rowOf_ok ok e
        · split at hq
          · cases hq
          · exact chF_ok rows ok n _ _ qs hq
      · intro ps h; cases h
theorem rws_pure : ∀ ds : List Rw, D.pureL (ds.map rwD) = true
  | [] => rfl
  | d :: ds => by rw [List.map_cons, pureL_cons, rws_pure ds, show (rwD d).pure = true from dcD_pure _ (lPs_pure d)]; rfl
def inR (lo hi : Int) : Lf → Bool
  | .int v => decide (lo ≤ v ∧ v ≤ hi)
  | _ => false
def ivD : Lf → D
  | .int v => .int v
  | _ => .non
def nvD : Lf → D
  | .name cs => .tup (dInts cs)
  | _ => .non
theorem fi_core (x1 : Option D) (B P : D) (x : Str) (lo hi : Int) (z6 : Option D) (v : Lf) (pB : B.pure = true) (pP : P.pure = true) (h : d_key [B, P, .str x] = .ok (lD v)) :
    lp_first_integer_1 [some B, x1, some (.str x), some (.int lo), some (.int hi), some P, z6] = if inR lo hi v = true then .rt (ivD v) [some B, x1, some (.str x), some (.int lo), some (.int hi), some P, some (lD v)] else .nx [some B, x1, some (.str x), some (.int lo), some (.int hi), some P, some (lD v)] := by
  cases v with
  | int v =>
    by_cases a : lo ≤ v <;> by_cases b : v ≤ hi <;> simp [lp_first_integer_1, callF, pB, pP, h, lD, ix0, ix1, e3, inR, ivD, a, b]
  | _ => simp [lp_first_integer_1, callF, pB, pP, h, lD, ix0, ix1, inR]
/-- the first value that fits, of the dicts' key -/
def fst (ds : List Rw) (cs : List Int) (p : Lf → Bool) : Option Lf := (ds.map fun ps => kF ps cs).find? p
theorem fst_find (ds : List Rw) (cs : List Int) (p : Lf → Bool) : fst ds cs p = (ds.find? fun ps => p (kF ps cs)).map fun ps => kF ps cs := by
  unfold fst
  rw [List.find?_map]; rfl
theorem fi_end (B : D) (L : List D) (x : Str) (lo hi : Int) (v : D) (pL : D.pureL L = true) (h : (∃ ρ', forL (gNm 5) lp_first_integer_1 L [some B, some (.lst false L), some (.str x), some (.int lo), some (.int hi), none, none] = .rt v ρ') ∨ (v = .non ∧ ∃ ρ', forL (gNm 5) lp_first_integer_1 L [some B, some (.lst false L), some (.str x), some (.int lo), some (.int hi), none, none] = .nx ρ')) :
    d_first_integer [B, .lst false L, .str x, .int lo, .int hi] = .ok v := by
  rcases h with ⟨ρ', h⟩ | ⟨rfl, ρ', h⟩
  · simp [d_first_integer, b_first_integer, fnD, pL, h]
  · simp [d_first_integer, b_first_integer, fnD, pL, h]
theorem m_first_integer (rows : List Row) (ds : List Rw) (ok : okDs ds) (x : Str) (hx : okS x) (lo hi : Int) : d_first_integer [bookD rows, .lst false (ds.map rwD), .str x, .int lo, .int hi] = .ok (((fst ds (cps x) (inR lo hi)).map ivD).getD .non) := by
  refine fi_end _ _ x lo hi _ (rws_pure ds) ?_
  rw [fst_find]
  rcases for_find2 rwD (g := gNm 5) (b := lp_first_integer_1) (fun ps => inR lo hi (kF ps (cps x))) (fun ps => ivD (kF ps (cps x))) (fun ρ => ∃ y z, ρ = [some (bookD rows), some (.lst false (ds.map rwD)), some (.str x), some (.int lo), some (.int hi), y, z]) ds [some (bookD rows), some (.lst false (ds.map rwD)), some (.str x), some (.int lo), some (.int hi), none, none] (fun ps hp ρ H => by
    obtain ⟨y, z, rfl⟩ := H
    have c := fi_core (some (.lst false (ds.map rwD))) (bookD rows) (rwD ps) x lo hi z _ (bookD_pure rows) (dcD_pure _ (lPs_pure ps)) (m_key rows ps (ok ps hp) x hx)
    exact ⟨_, _, rfl, c, _, _, rfl⟩) ⟨none, none, rfl⟩ with ⟨ps, ρ', e1, e2⟩ | ⟨e1, ρ', e2, _⟩
  · exact .inl ⟨ρ', by rw [e1]; exact e2⟩
  · exact .inr ⟨by rw [e1]; rfl, ρ', e2⟩

/-! names -/
def isN (q : List Int → Bool) : Lf → Bool
  | .name cs => q cs
  | _ => false
theorem fn_core (x1 : Option D) (B P al : D) (x : Str) (z5 : Option D) (v : Lf) (q : List Int → Bool) (pB : B.pure = true) (pP : P.pure = true) (h : d_key [B, P, .str x] = .ok (lD v)) (hq : (al = .non ∧ ∀ cs, q cs = true) ∨ ∃ L : List (List Int), al = .lst false (L.map tcD) ∧ ∀ cs, q cs = decide (cs ∈ L)) :
    lp_first_name_1 [some B, x1, some (.str x), some al, some P, z5] = if isN q v = true then .rt (nvD v) [some B, x1, some (.str x), some al, some P, some (lD v)] else .nx [some B, x1, some (.str x), some al, some P, some (lD v)] := by
  cases v with
  | name cs =>
    rcases hq with ⟨rfl, hq⟩ | ⟨L, rfl, hq⟩
    · have g : gIs .non .non = some (.bl true) := rfl
      simp [lp_first_name_1, callF, pB, pP, h, lD, ix0, ix1, isN, nvD, hq cs, g]
    · have g : gIs (.lst false (L.map tcD)) .non = some (.bl false) := rfl
      have gi : gIn (.tup (dInts cs)) (.lst false (L.map tcD)) = some (.bl (decide (cs ∈ L))) := by unfold gIn; rw [in_seen]; rfl
      by_cases m : cs ∈ L
      · have hm : q cs = true := by rw [hq]; exact decide_eq_true m
        simp [lp_first_name_1, callF, pB, pP, h, lD, ix0, ix1, isN, nvD, hm, g, gi, m]
      · have hm : q cs = false := by rw [hq]; exact decide_eq_false m
        simp [lp_first_name_1, callF, pB, pP, h, lD, ix0, ix1, isN, nvD, hm, g, gi, m]
  | _ => simp [lp_first_name_1, callF, pB, pP, h, lD, ix0, ix1, isN]
theorem fn_end (B al : D) (L : List D) (x : Str) (v : D) (pL : D.pureL L = true) (h : (∃ ρ', forL (gNm 4) lp_first_name_1 L [some B, some (.lst false L), some (.str x), some al, none, none] = .rt v ρ') ∨ (v = .non ∧ ∃ ρ', forL (gNm 4) lp_first_name_1 L [some B, some (.lst false L), some (.str x), some al, none, none] = .nx ρ')) :
    d_first_name [B, .lst false L, .str x, al] = .ok v := by
  rcases h with ⟨ρ', h⟩ | ⟨rfl, ρ', h⟩
  · simp [d_first_name, b_first_name, fnD, pL, h]
  · simp [d_first_name, b_first_name, fnD, pL, h]
theorem m_first_name (rows : List Row) (ds : List Rw) (ok : okDs ds) (x : Str) (hx : okS x) (al : D) (q : List Int → Bool) (hq : (al = .non ∧ ∀ cs, q cs = true) ∨ ∃ L : List (List Int), al = .lst false (L.map tcD) ∧ ∀ cs, q cs = decide (cs ∈ L)) : d_first_name [bookD rows, .lst false (ds.map rwD), .str x, al] = .ok (((fst ds (cps x) (isN q)).map nvD).getD .non) := by
  refine fn_end _ al _ x _ (rws_pure ds) ?_
  rw [fst_find]
  rcases for_find2 rwD (g := gNm 4) (b := lp_first_name_1) (fun ps => isN q (kF ps (cps x))) (fun ps => nvD (kF ps (cps x))) (fun ρ => ∃ y z, ρ = [some (bookD rows), some (.lst false (ds.map rwD)), some (.str x), some al, y, z]) ds [some (bookD rows), some (.lst false (ds.map rwD)), some (.str x), some al, none, none] (fun ps hp ρ H => by
    obtain ⟨y, z, rfl⟩ := H
    have c := fn_core (some (.lst false (ds.map rwD))) (bookD rows) (rwD ps) al x z _ q (bookD_pure rows) (dcD_pure _ (lPs_pure ps)) (m_key rows ps (ok ps hp) x hx) hq
    exact ⟨_, _, rfl, c, _, _, rfl⟩) ⟨none, none, rfl⟩ with ⟨ps, ρ', e1, e2⟩ | ⟨e1, ρ', e2, _⟩
  · exact .inl ⟨ρ', by rw [e1]; exact e2⟩
  · exact .inr ⟨by rw [e1]; rfl, ρ', e2⟩
/-! bounded -/
def clamp (lo hi v : Int) : Int := if (if v < hi then v else hi) > lo then (if v < hi then v else hi) else lo
theorem no_int (v lo hi o : Int) : d_number_of [.tup [.str (Str.ofString "int"), .int v], .int lo, .int hi, .int o] = .ok (.int (clamp lo hi v)) := by
  have e : (if (if v < hi then v else hi) > lo then (if v < hi then v else hi) else lo) = clamp lo hi v := rfl
  simp [d_number_of, b_number_of, fnD, ix0, ix1]
  exact e
def isInt : Lf → Bool
  | .int _ => true
  | _ => false
def clD (lo hi : Int) : Lf → D
  | .int v => .int (clamp lo hi v)
  | _ => .non
theorem bo_core (x1 : Option D) (B P : D) (x : Str) (lo hi o : Int) (z7 : Option D) (v : Lf) (pB : B.pure = true) (pP : P.pure = true) (h : d_key [B, P, .str x] = .ok (lD v)) :
    lp_bounded_1 [some B, x1, some (.str x), some (.int lo), some (.int hi), some (.int o), some P, z7] = if isInt v = true then .rt (clD lo hi v) [some B, x1, some (.str x), some (.int lo), some (.int hi), some (.int o), some P, some (lD v)] else .nx [some B, x1, some (.str x), some (.int lo), some (.int hi), some (.int o), some P, some (lD v)] := by
  cases v with
  | int v =>
    have := no_int v lo hi o
    simp [lp_bounded_1, callF, pB, pP, h, lD, ix0, isInt, clD, this]
  | _ => simp [lp_bounded_1, callF, pB, pP, h, lD, ix0, isInt]
theorem bo_end (B : D) (L : List D) (x : Str) (lo hi o : Int) (v : D) (pL : D.pureL L = true) (h : (∃ ρ', forL (gNm 6) lp_bounded_1 L [some B, some (.lst false L), some (.str x), some (.int lo), some (.int hi), some (.int o), none, none] = .rt v ρ') ∨ (v = .int o ∧ ∃ z6 z7, forL (gNm 6) lp_bounded_1 L [some B, some (.lst false L), some (.str x), some (.int lo), some (.int hi), some (.int o), none, none] = .nx [some B, some (.lst false L), some (.str x), some (.int lo), some (.int hi), some (.int o), z6, z7])) :
    d_bounded [B, .lst false L, .str x, .int lo, .int hi, .int o] = .ok v := by
  rcases h with ⟨ρ', h⟩ | ⟨rfl, z6, z7, h⟩
  · simp [d_bounded, b_bounded, fnD, pL, h]
  · simp [d_bounded, b_bounded, fnD, pL, h]
def bdF (ds : List Rw) (cs : List Int) (lo hi o : Int) : D := ((fst ds cs isInt).map (clD lo hi)).getD (.int o)
theorem m_bounded (rows : List Row) (ds : List Rw) (ok : okDs ds) (x : Str) (hx : okS x) (lo hi o : Int) : d_bounded [bookD rows, .lst false (ds.map rwD), .str x, .int lo, .int hi, .int o] = .ok (bdF ds (cps x) lo hi o) := by
  refine bo_end _ _ x lo hi o _ (rws_pure ds) ?_
  unfold bdF
  rw [fst_find]
  rcases for_find2 rwD (g := gNm 6) (b := lp_bounded_1) (fun ps => isInt (kF ps (cps x))) (fun ps => clD lo hi (kF ps (cps x))) (fun ρ => ∃ y z, ρ = [some (bookD rows), some (.lst false (ds.map rwD)), some (.str x), some (.int lo), some (.int hi), some (.int o), y, z]) ds [some (bookD rows), some (.lst false (ds.map rwD)), some (.str x), some (.int lo), some (.int hi), some (.int o), none, none] (fun ps hp ρ H => by
    obtain ⟨y, z, rfl⟩ := H
    have c := bo_core (some (.lst false (ds.map rwD))) (bookD rows) (rwD ps) x lo hi o z _ (bookD_pure rows) (dcD_pure _ (lPs_pure ps)) (m_key rows ps (ok ps hp) x hx)
    exact ⟨_, _, rfl, c, _, _, rfl⟩) ⟨none, none, rfl⟩ with ⟨ps, ρ', e1, e2⟩ | ⟨e1, ρ', e2, y, z, rfl⟩
  · exact .inl ⟨ρ', by rw [e1]; exact e2⟩
  · exact .inr ⟨by rw [e1]; rfl, y, z, e2⟩

end
set_option maxRecDepth 100000
set_option maxHeartbeats 4000000
open PySem PySem.Spec PyProof.Rows L2 Dv
noncomputable section
/-! style_of -/
def wL : Str := Str.ofString "Left"
def wM : Str := Str.ofString "Middle"
def wR : Str := Str.ofString "Right"
def L3 : List (List Int) := [cps (Str.ofString "Left"), cps (Str.ofString "Middle"), cps (Str.ofString "Right")]
theorem okL' : okS (Str.ofString "Left") := by unfold okS; decide +kernel
theorem okM' : okS (Str.ofString "Middle") := by unfold okS; decide +kernel
theorem okR' : okS (Str.ofString "Right") := by unfold okS; decide +kernel
theorem al_lc (x0 x1 x2 x3 x4 x5 : Option D) : lcL (gNm 6) tYes (eCall 1 d_codes (aV (eVar 6) (aNil))) [x0, x1, x2, x3, x4, x5, none] [.str (Str.ofString "Left"), .str (Str.ofString "Middle"), .str (Str.ofString "Right")] [] = .ok (.lst true (L3.map tcD)) := by
  have h1 := m_codes _ okL'
  have h2 := m_codes _ okM'
  have h3 := m_codes _ okR'
  simp [lcL_cons, lcL_nil, callF, h1, h2, h3, L3, tcD]
def wordF (cs : List Int) : Str := if cps (Str.ofString "Left") = cs then Str.ofString "Left" else if cps (Str.ofString "Middle") = cs then Str.ofString "Middle" else Str.ofString "Right"
theorem al_lc2 (x0 x1 x2 x3 x4 : Option D) (cs : List Int) (h : cs ∈ L3) : ∃ W, lcL (gNm 6) (eT (e2 gEq (eCall 1 d_codes (aV (eVar 6) (aNil))) (eVar 5))) (asOwn (eVar 6)) [x0, x1, x2, x3, x4, some (.tup (dInts cs)), none] [.str (Str.ofString "Left"), .str (Str.ofString "Middle"), .str (Str.ofString "Right")] [] = .ok (.lst true (.str (wordF cs) :: W)) := by
  have h1 := m_codes _ okL'
  have h2 := m_codes _ okM'
  have h3 := m_codes _ okR'
  have n1 : (cps (Str.ofString "Left") = cps (Str.ofString "Middle")) = False := eq_false (by decide +kernel)
  have n2 : (cps (Str.ofString "Left") = cps (Str.ofString "Right")) = False := eq_false (by decide +kernel)
  have n3 : (cps (Str.ofString "Middle") = cps (Str.ofString "Right")) = False := eq_false (by decide +kernel)
  have n4 : (cps (Str.ofString "Middle") = cps (Str.ofString "Left")) = False := eq_false (by decide +kernel)
  have n5 : (cps (Str.ofString "Right") = cps (Str.ofString "Left")) = False := eq_false (by decide +kernel)
  have n6 : (cps (Str.ofString "Right") = cps (Str.ofString "Middle")) = False := eq_false (by decide +kernel)
  unfold L3 at h
  simp only [List.mem_cons, List.not_mem_nil, or_false] at h
  rcases h with rfl | rfl | rfl
  · exact ⟨[], by simp [lcL_cons, lcL_nil, callF, h1, h2, h3, wordF, n1, n2, n3, n4, n5, n6]⟩
  · exact ⟨[], by simp [lcL_cons, lcL_nil, callF, h1, h2, h3, wordF, n1, n2, n3, n4, n5, n6]⟩
  · exact ⟨[], by simp [lcL_cons, lcL_nil, callF, h1, h2, h3, wordF, n1, n2, n3, n4, n5, n6]⟩
def orD (d : D) (o : Int) : D := match d with
  | .non => .int o
  | d => d
def wordO : Option Lf → Str
  | some (.name cs) => wordF cs
  | _ => Str.ofString "Left"
def inL3 (cs : List Int) : Bool := decide (cs ∈ L3)
/-- an int or none -/
def ioD : Option Int → D
  | some v => .int v
  | none => .non
theorem so_core (B : D) (cs : List Int) (DS : List D) (f sz ind gp : D) (c b : Option Int) (al : Option (List Int)) (pB : B.pure = true) (cD' : D.coldL DS = true) (fD : D.frzL DS = DS) (h0 : d_style_dicts [B, .tup (dInts cs)] = .ok (.lst true DS))
    (h1 : d_first_integer [B, .lst false DS, .str (Str.ofString "Color"), .int 0, .int 16777215] = .ok (ioD c)) (h2 : d_first_integer [B, .lst false DS, .str (Str.ofString "Back"), .int 0, .int 16777215] = .ok (ioD b))
    (h3 : d_first_name [B, .lst false DS, .str (Str.ofString "Align"), .lst false (L3.map tcD)] = .ok ((al.map fun cs => D.tup (dInts cs)).getD .non)) (h4 : d_first_name [B, .lst false DS, .str (Str.ofString "Font"), .non] = .ok f)
    (h5 : d_bounded [B, .lst false DS, .str (Str.ofString "Size"), .int 1, .int 8, .int 4] = .ok sz) (h6 : d_bounded [B, .lst false DS, .str (Str.ofString "Indent"), .int 0, .int 64, .int 0] = .ok ind) (h7 : d_bounded [B, .lst false DS, .str (Str.ofString "Gap"), .int 0, .int 64, .int 0] = .ok gp)
    (nf : f.noFz = true) (ns : sz.noFz = true) (ni : ind.noFz = true) (ng : gp.noFz = true) (ha : ∀ cs, al = some cs → cs ∈ L3) :
    d_style_of [B, .tup (dInts cs)] = .ok (.tup [f, sz, .int (c.getD 0), .int (b.getD (-1)), .str ((al.map wordF).getD (Str.ofString "Left")), ind, gp]) := by
  have l := al_lc (some B) (some (.tup (dInts cs))) (some (.lst true DS)) (some (ioD c)) (some (ioD b)) none
  have tp : D.pureL (L3.map tcD) = true := rfl
  have tf := D.pureL_frzL _ tp
  have tc := D.pureL_cold _ tp
  have g1 : gIs .non .non = some (.bl true) := rfl
  have g2 : ∀ v : Int, gIs (.int v) .non = some (.bl false) := fun _ => rfl
  have g3 : ∀ v : List D, gIs (.tup v) .non = some (.bl false) := fun _ => rfl
  have fB := p_frz pB
  have cB := p_cold pB
  generalize L3.map tcD = T3 at *
  cases al with
  | none =>
    cases c <;> cases b <;> simp only [ioD, Option.map_none, Option.getD_none] at * <;>
      simp [d_style_of, b_style_of, fnD, callF, c_WHITEST, c_ALIGNS, pB, fB, cB, cD', fD, h0, h1, h2, h3, h4, h5, h6, h7, nf, ns, ni, ng, l, tf, tc, tp, g1, g2, ix0]
  | some a =>
    obtain ⟨W', l2⟩ := al_lc2 (some B) (some (.tup (dInts cs))) (some (.lst true DS)) (some (ioD c)) (some (ioD b)) a (ha a rfl)
    cases c <;> cases b <;> simp only [ioD, Option.map_some, Option.getD_some] at * <;>
      simp [d_style_of, b_style_of, fnD, callF, c_WHITEST, c_ALIGNS, pB, fB, cB, cD', fD, h0, h1, h2, h3, h4, h5, h6, h7, nf, ns, ni, ng, l, l2, tf, tc, tp, g1, g2, g3, ix0]

end
set_option maxRecDepth 100000
set_option maxHeartbeats 4000000
open PySem PySem.Spec PyProof.Rows L2 Dv
noncomputable section
def ivO : Lf → Option Int
  | .int v => some v
  | _ => none
def nvO : Lf → Option (List Int)
  | .name cs => some cs
  | _ => none
theorem iv_io (ds : List Rw) (cs : List Int) (lo hi : Int) : ((fst ds cs (inR lo hi)).map ivD).getD .non = ioD ((fst ds cs (inR lo hi)).bind ivO) := by
  cases h : fst ds cs (inR lo hi) with
  | none => rfl
  | some v =>
    have p : inR lo hi v = true := List.find?_some h
    cases v <;> first | rfl | exact absurd p (by simp [inR])
theorem nv_no (ds : List Rw) (cs : List Int) (q : List Int → Bool) : ((fst ds cs (isN q)).map nvD).getD .non = (((fst ds cs (isN q)).bind nvO).map fun cs => D.tup (dInts cs)).getD .non := by
  cases h : fst ds cs (isN q) with
  | none => rfl
  | some v =>
    have p : isN q v = true := List.find?_some h
    cases v <;> first | rfl | exact absurd p (by simp [isN])
def kColor : Str := Str.ofString "Color"
def fontD (ds : List Rw) : D := (((fst ds (cps (Str.ofString "Font")) (isN fun _ => true)).bind nvO).map fun cs => D.tup (dInts cs)).getD .non
def alignF (ds : List Rw) : Str := (((fst ds (cps (Str.ofString "Align")) (isN inL3)).bind nvO).map wordF).getD (Str.ofString "Left")
def styD (ds : List Rw) : D := .tup [fontD ds, bdF ds (cps (Str.ofString "Size")) 1 8 4, .int (((fst ds (cps (Str.ofString "Color")) (inR 0 16777215)).bind ivO).getD 0), .int (((fst ds (cps (Str.ofString "Back")) (inR 0 16777215)).bind ivO).getD (-1)), .str (alignF ds), bdF ds (cps (Str.ofString "Indent")) 0 64 0, bdF ds (cps (Str.ofString "Gap")) 0 64 0]
theorem bdF_int (ds : List Rw) (cs : List Int) (lo hi o : Int) : ∃ v, bdF ds cs lo hi o = .int v := by
  unfold bdF
  cases h : fst ds cs isInt with
  | none => exact ⟨o, rfl⟩
  | some v =>
    have p : isInt v = true := List.find?_some h
    cases v <;> first | exact ⟨_, rfl⟩ | exact absurd p (by simp [isInt])
theorem fontD_cases (ds : List Rw) : fontD ds = .non ∨ ∃ cs, fontD ds = .tup (dInts cs) := by
  unfold fontD
  cases (fst ds (cps (Str.ofString "Font")) (isN fun _ => true)).bind nvO with
  | none => exact .inl rfl
  | some cs => exact .inr ⟨cs, rfl⟩
theorem m_style_of (rows : List Row) (ok : okRows rows) (cs : List Int) : d_style_of [bookD rows, .tup (dInts cs)] = .ok (styD (chF rows 8 cs [])) := by
  have okd := chF_ok rows ok 8 cs []
  have h0 := m_style_dicts rows ok cs
  generalize chF rows 8 cs [] = ds at *
  have pL := rws_pure ds
  have h1 := m_first_integer rows ds okd (Str.ofString "Color") (by unfold okS; decide +kernel) 0 16777215
  have h2 := m_first_integer rows ds okd (Str.ofString "Back") (by unfold okS; decide +kernel) 0 16777215
  have h3 := m_first_name rows ds okd (Str.ofString "Align") (by unfold okS; decide +kernel) (.lst false (L3.map tcD)) inL3 (.inr ⟨L3, rfl, fun _ => rfl⟩)
  have h4 := m_first_name rows ds okd (Str.ofString "Font") (by unfold okS; decide +kernel) .non (fun _ => true) (.inl ⟨rfl, fun _ => rfl⟩)
  have h5 := m_bounded rows ds okd (Str.ofString "Size") (by unfold okS; decide +kernel) 1 8 4
  have h6 := m_bounded rows ds okd (Str.ofString "Indent") (by unfold okS; decide +kernel) 0 64 0
  have h7 := m_bounded rows ds okd (Str.ofString "Gap") (by unfold okS; decide +kernel) 0 64 0
  rw [iv_io] at h1 h2
  rw [nv_no] at h3 h4
  have nb : ∀ (c : List Int) (lo hi o : Int), (bdF ds c lo hi o).noFz = true := fun c lo hi o => by
    obtain ⟨v, e⟩ := bdF_int ds c lo hi o
    rw [e]; rfl
  have nf : (fontD ds).noFz = true := by
    rcases fontD_cases ds with e | ⟨cs, e⟩
    · rw [e]; rfl
    · rw [e]; simp
  refine so_core (bookD rows) cs (ds.map rwD) _ _ _ _ _ _ _ (bookD_pure rows) (D.pureL_cold _ pL) (D.pureL_frzL _ pL) h0 h1 h2 h3 h4 h5 h6 h7 nf (nb ..) (nb ..) (nb ..) fun c hc => ?_
  cases h : fst ds (cps (Str.ofString "Align")) (isN inL3) with
  | none => rw [h] at hc; cases hc
  | some v =>
    rw [h] at hc
    have p : isN inL3 v = true := List.find?_some h
    cases v <;> first | cases hc | skip
    exact of_decide_eq_true p
/-! the law's: look, get -/
theorem ll_lc (x0 x2 : Option D) (v : Option D) (n : Int) (os : List (Int × D)) (hp : ∀ o ∈ os, o.2.pure = true) (hl : os.length ≤ 1000) (hv : v = some (.tup [.str (Str.ofString "ref"), .int n])) :
    lcL (gTp (gsCons (gNm 3) (gsCons (gNm 4) (gsNil)))) (eT (e2 gEq (eVar 3) (e2 gIx (eVar 1) (eC (.int 1))))) (asOwn (eVar 4)) [x0, v, x2, none, none] (os.map obD) [] = .ok (.lst true ((os.filter fun o => decide (o.1 = n)).map (·.2))) := by
  subst hv
  have go : ∀ (os : List (Int × D)) (A : List D), (∀ o ∈ os, o.2.pure = true) → A.length + os.length ≤ 1000 → lcL (gTp (gsCons (gNm 3) (gsCons (gNm 4) (gsNil)))) (eT (e2 gEq (eVar 3) (e2 gIx (eVar 1) (eC (.int 1))))) (asOwn (eVar 4)) [x0, some (.tup [.str (Str.ofString "ref"), .int n]), x2, none, none] (os.map obD) A = .ok (.lst true (A ++ (os.filter fun o => decide (o.1 = n)).map (·.2))) := by
    intro os
    induction os with
    | nil => intro A _ _; rw [List.map_nil, lcL_nil]; simp
    | cons o os ih =>
      intro A hp hl
      rw [List.length_cons] at hl
      have po := hp o List.mem_cons_self
      have e1 : gTp (gsCons (gNm 3) (gsCons (gNm 4) (gsNil))) (obD o) [x0, some (.tup [.str (Str.ofString "ref"), .int n]), x2, none, none] = some [x0, some (.tup [.str (Str.ofString "ref"), .int n]), x2, some (.int o.1), some o.2] := rfl
      have e2' : eT (e2 gEq (eVar 3) (e2 gIx (eVar 1) (eC (.int 1)))) [x0, some (.tup [.str (Str.ofString "ref"), .int n]), x2, some (.int o.1), some o.2] = .ok (decide (o.1 = n)) := by
        by_cases h : o.1 = n <;> simp [ix1, h]
      have e3' : asOwn (eVar 4) [x0, some (.tup [.str (Str.ofString "ref"), .int n]), x2, some (.int o.1), some o.2] = .ok o.2 := by simp [po]
      rw [List.map_cons, lcL_cons, e1]
      simp only [e2', R.calm_ok, R.bind_ok]
      by_cases h : o.1 = n
      · rw [decide_eq_true h, if_pos rfl]
        simp only [e3', R.calm_ok, R.bind_ok]
        rw [if_pos (by omega), ih (A ++ [o.2]) (fun q hq => hp q (List.mem_cons_of_mem _ hq)) (by rw [List.length_append]; simp; omega), List.filter_cons_of_pos (p := fun o : Int × D => decide (o.1 = n)) (decide_eq_true h), List.map_cons, List.append_assoc]
        rfl
      · rw [decide_eq_false h, if_neg Bool.false_ne_true, ih A (fun q hq => hp q (List.mem_cons_of_mem _ hq)) (by omega), List.filter_cons_of_neg (p := fun o : Int × D => decide (o.1 = n)) (by rw [decide_eq_false h]; exact Bool.false_ne_true)]
  have := go os [] hp (by simpa using hl)
  rw [List.nil_append] at this; exact this
theorem ll_stop (B : D) (t : Str) (r : List D) (h : (t == Str.ofString "ref") = false) (p : D.pureL r = true) : d__law_look [B, .tup (.str t :: r)] = .ok (.tup (.str t :: r)) := by
  have g : gIs (.tup (.str t :: r)) .non = some (.bl false) := rfl
  have g2 : gIsNot (.tup (.str t :: r)) .non = some (.bl true) := rfl
  have g3 : gEq (.str t) (.str (Str.ofString "ref")) = some (.bl false) := by
    show some (D.bl (t == Str.ofString "ref")) = _
    rw [h]
  simp [d__law_look, b__law_look, fnD, ix0, g, g2, g3, p]
theorem ll_ref (os F : List D) (n r : Int) (w : D) (pO : D.pureL os = true) (hlc : lcL (gTp (gsCons (gNm 3) (gsCons (gNm 4) (gsNil)))) (eT (e2 gEq (eVar 3) (e2 gIx (eVar 1) (eC (.int 1))))) (asOwn (eVar 4)) [some (.tup [.tup os, .int r]), some (.tup [.str (Str.ofString "ref"), .int n]), none, none, none] os [] = .ok (.lst true F)) (hF : (F = [] ∧ w = .tup [.str (Str.ofString "none")]) ∨ ∃ F', F = w :: F') (hw : w.pure = true) (hn : Dv.isNon w = false) :
    d__law_look [.tup [.tup os, .int r], .tup [.str (Str.ofString "ref"), .int n]] = .ok w := by
  have g2 : gIsNot (.tup [.str (Str.ofString "ref"), .int n]) .non = some (.bl true) := rfl
  have g3 : gIs .non .non = some (.bl true) := rfl
  rcases hF with ⟨rfl, rfl⟩ | ⟨F', rfl⟩
  · simp [d__law_look, b__law_look, fnD, ix0, g2, g3, pO, hlc]
  · simp [d__law_look, b__law_look, fnD, ix0, g2, g3, pO, hlc, hw, hn]
theorem m_llook (rows : List Row) (v : Lf) (ok : okL v) : d__law_look [bookD rows, lD v] = .ok (lD (lkF v)) := by
  by_cases h : ∃ n, v = .ref n
  · obtain ⟨n, rfl⟩ := h
    obtain ⟨a, b, c⟩ := fnd_ref rows n ok
    have hlc := ll_lc (some (bookD rows)) none _ n (objs rows) (objs_pure rows) (by unfold objs; simp) rfl
    have hh : ((objs rows).filter fun o => decide (o.1 = n)).head? = (objs rows).find? fun o => decide (o.1 = n) := List.head?_filter ..
    refine ll_ref _ _ n 1 (lD (vOf n)) (obs_pure _ (objs_pure rows)) hlc ?_ (lD_pure _) ?_
    · cases hf : (objs rows).filter (fun o => decide (o.1 = n)) with
      | nil =>
        rw [hf] at hh
        have e : fnd (objs rows) n = .non := by unfold fnd; rw [← hh]; rfl
        rw [e] at a
        exact .inl ⟨rfl, a.symm⟩
      | cons o F =>
        rw [hf] at hh
        have e : fnd (objs rows) n = o.2 := by unfold fnd; rw [← hh]; rfl
        rw [e] at a b
        refine .inr ⟨F.map (·.2), ?_⟩
        rw [List.map_cons, ← a]
        cases b' : o.2 with
        | non =>
          have : o ∈ objs rows := (List.mem_filter.mp (hf ▸ List.mem_cons_self)).1
          have no : ∀ o ∈ objs rows, o.2 ≠ .non := fun o ho => by
            rcases List.mem_cons.mp ho with rfl | ho
            · intro z; cases z
            · obtain ⟨k, _, rfl⟩ := List.mem_map.mp ho
              intro z; cases z
          exact absurd b' (no o this)
        | _ => rfl
    · unfold vOf; split <;> rfl
  · have h' : ∀ n, v ≠ .ref n := fun n e => h ⟨n, e⟩
    obtain ⟨s, _⟩ := lD_stop v h'
    cases s' : v with
    | ref n => exact absurd s' (h' n)
    | none => exact ll_stop _ _ _ (by decide +kernel) rfl
    | text => exact ll_stop _ _ _ (by decide +kernel) rfl
    | bol => exact ll_stop _ _ _ (by decide +kernel) rfl
    | name cs => exact ll_stop _ _ _ (by decide +kernel) (by simp)
    | int n => exact ll_stop _ _ _ (by decide +kernel) rfl
    | lst => exact ll_stop _ _ _ (by decide +kernel) rfl

end
set_option maxRecDepth 100000
set_option maxHeartbeats 4000000
open PySem PySem.Spec PyProof.Rows L2 Dv
noncomputable section
theorem lg_core (B P d w : D) (x : Str) (ds : List Int) (pB : B.pure = true) (pd : d.pure = true) (hx : d__law_codes [.str x] = .ok (.tup (dInts (cps x)))) (h : d__law_look [B, d] = .ok w) : lp__law_get_1 [some B, some P, some (.str x), some (.tup (dInts ds)), some d] = if decide (ds = cps x) = true then .rt w [some B, some P, some (.str x), some (.tup (dInts ds)), some d] else .nx [some B, some P, some (.str x), some (.tup (dInts ds)), some d] := by
  by_cases e : ds = cps x
  · subst e; simp [lp__law_get_1, callF, pB, pd, hx, h]
  · simp [lp__law_get_1, callF, hx, e]
theorem lg_end (B : D) (ps : List D) (x : Str) (v : D) (pP : D.pureL ps = true)
    (h : (∃ ρ', forL (gTp (gsCons (gNm 3) (gsCons (gNm 4) (gsNil)))) lp__law_get_1 ps [some B, some (.tup [.str (Str.ofString "dict"), .tup ps]), some (.str x), none, none] = .rt v ρ') ∨ (v = .tup [.str (Str.ofString "none")] ∧ ∃ ρ', forL (gTp (gsCons (gNm 3) (gsCons (gNm 4) (gsNil)))) lp__law_get_1 ps [some B, some (.tup [.str (Str.ofString "dict"), .tup ps]), some (.str x), none, none] = .nx ρ')) :
    d__law_get [B, .tup [.str (Str.ofString "dict"), .tup ps], .str x] = .ok v := by
  rcases h with ⟨ρ', h⟩ | ⟨rfl, ρ', h⟩
  · simp [d__law_get, b__law_get, fnD, ix0, ix1, pP, h]
  · simp [d__law_get, b__law_get, fnD, ix0, ix1, pP, h]
theorem m_lget (rows : List Row) (ps : Rw) (ok : okR ps) (x : Str) (hx : okS x) : d__law_get [bookD rows, rwD ps, .str x] = .ok (lD (kF ps (cps x))) := by
  refine lg_end (bookD rows) _ x _ (prs_pure _ (lPs_pure ps)) ?_
  have e0 : (lPs ps).map prD = ps.map fun p => prD (p.1, lD p.2) := by unfold lPs; rw [List.map_map]; rfl
  rw [e0]
  have hc := m_lcodes x hx
  rcases for_find2 (fun p : List Int × Lf => prD (p.1, lD p.2)) (g := gTp (gsCons (gNm 3) (gsCons (gNm 4) (gsNil)))) (b := lp__law_get_1) (fun p => decide (p.1 = cps x)) (fun p => lD (lkF p.2)) (fun ρ => ∃ y z, ρ = [some (bookD rows), some (.tup [.str (Str.ofString "dict"), .tup (ps.map fun p => prD (p.1, lD p.2))]), some (.str x), y, z]) ps [some (bookD rows), some (.tup [.str (Str.ofString "dict"), .tup (ps.map fun p => prD (p.1, lD p.2))]), some (.str x), none, none] (fun p hp ρ H => by
    obtain ⟨y, z, rfl⟩ := H
    have c := lg_core (bookD rows) (.tup [.str (Str.ofString "dict"), .tup (ps.map fun p => prD (p.1, lD p.2))]) (lD p.2) _ x p.1 (bookD_pure rows) (lD_pure _) hc (m_llook rows p.2 (ok p hp))
    exact ⟨_, _, rfl, c, _, _, rfl⟩) ⟨none, none, rfl⟩ with ⟨p, ρ', e1, e2⟩ | ⟨e1, ρ', e2, _⟩
  · refine .inl ⟨ρ', ?_⟩
    unfold kF
    rw [e1]; exact e2
  · refine .inr ⟨?_, ρ', e2⟩
    unfold kF
    rw [e1]; rfl
/-! the law's chain -/
def rowD (r : Row) : D := .tup [.str r.1, rD r.2]
theorem rowDs_pure : ∀ rows : List Row, D.pureL (rows.map rowD) = true
  | [] => rfl
  | r :: rows => by
    rw [List.map_cons, pureL_cons, rowDs_pure rows]
    have := rD_pure r.2
    simp [rowD, this]
def okNm (rows : List Row) : Prop := (∀ r ∈ rows, okS r.1) ∧ rows.length ≤ 1000
theorem hits_lc (x0 x1 x3 x4 x5 x6 x7 : Option D) (cs : List Int) (rows : List Row) (okn : okNm rows) : lcL (gTp (gsCons (gNm 8) (gsCons (gNm 9) (gsNil)))) (eT (e2 gEq (eCall 1 d__law_codes (aV (eVar 8) (aNil))) (eVar 2))) (asOwn (eVar 9)) [x0, x1, some (.tup (dInts cs)), x3, x4, x5, x6, x7, none, none] (rows.map rowD) [] = .ok (.lst true ((rows.filter fun r => decide (cps r.1 = cs)).map fun r => rD r.2)) := by
  have go : ∀ (rows : List Row) (A : List D), (∀ r ∈ rows, okS r.1) → A.length + rows.length ≤ 1000 → lcL (gTp (gsCons (gNm 8) (gsCons (gNm 9) (gsNil)))) (eT (e2 gEq (eCall 1 d__law_codes (aV (eVar 8) (aNil))) (eVar 2))) (asOwn (eVar 9)) [x0, x1, some (.tup (dInts cs)), x3, x4, x5, x6, x7, none, none] (rows.map rowD) A = .ok (.lst true (A ++ (rows.filter fun r => decide (cps r.1 = cs)).map fun r => rD r.2)) := by
    intro rows
    induction rows with
    | nil => intro A _ _; rw [List.map_nil, lcL_nil]; simp
    | cons o os ih =>
      intro A hp hl
      rw [List.length_cons] at hl
      have po := rD_pure o.2
      have hc := m_lcodes o.1 (hp o List.mem_cons_self)
      have e1 : gTp (gsCons (gNm 8) (gsCons (gNm 9) (gsNil))) (rowD o) [x0, x1, some (.tup (dInts cs)), x3, x4, x5, x6, x7, none, none] = some [x0, x1, some (.tup (dInts cs)), x3, x4, x5, x6, x7, some (.str o.1), some (rD o.2)] := rfl
      have e2' : eT (e2 gEq (eCall 1 d__law_codes (aV (eVar 8) (aNil))) (eVar 2)) [x0, x1, some (.tup (dInts cs)), x3, x4, x5, x6, x7, some (.str o.1), some (rD o.2)] = .ok (decide (cps o.1 = cs)) := by
        by_cases h : cps o.1 = cs <;> simp [callF, hc, h]
      have e3' : asOwn (eVar 9) [x0, x1, some (.tup (dInts cs)), x3, x4, x5, x6, x7, some (.str o.1), some (rD o.2)] = .ok (rD o.2) := by simp [po]
      rw [List.map_cons, lcL_cons, e1]
      simp only [e2', R.calm_ok, R.bind_ok]
      by_cases h : cps o.1 = cs
      · rw [decide_eq_true h, if_pos rfl]
        simp only [e3', R.calm_ok, R.bind_ok]
        rw [if_pos (by omega), ih (A ++ [rD o.2]) (fun q hq => hp q (List.mem_cons_of_mem _ hq)) (by rw [List.length_append]; simp; omega), List.filter_cons_of_pos (p := fun r : Row => decide (cps r.1 = cs)) (decide_eq_true h), List.map_cons, List.append_assoc]
        rfl
      · rw [decide_eq_false h, if_neg Bool.false_ne_true, ih A (fun q hq => hp q (List.mem_cons_of_mem _ hq)) (by omega), List.filter_cons_of_neg (p := fun r : Row => decide (cps r.1 = cs)) (by rw [decide_eq_false h]; exact Bool.false_ne_true)]
  have := go rows [] okn.1 (by have := okn.2; simpa using this)
  rw [List.nil_append] at this; exact this
theorem lc_stop (B R : D) (cs : List Int) (F : List D) (seen : List (List Int)) (x5 x6 x7 : Option D) (HS : List D) (RS : List D) (hR : R = .lst false RS) (pR : D.pureL RS = true) (pB : B.pure = true) (hlc : lcL (gTp (gsCons (gNm 8) (gsCons (gNm 9) (gsNil)))) (eT (e2 gEq (eCall 1 d__law_codes (aV (eVar 8) (aNil))) (eVar 2))) (asOwn (eVar 9)) [some B, some R, some (.tup (dInts cs)), some (.lst true F), some (.lst true (seen.map tcD)), x5, x6, x7, none, none] RS [] = .ok (.lst true HS))
    (h : cs ∈ seen ∨ (cs ∉ seen ∧ (HS = [] ∨ ∃ t r HS', HS = .tup (.str t :: r) :: HS' ∧ (t == Str.ofString "dict") = false))) :
    lp__law_chain_1 [some B, some R, some (.tup (dInts cs)), some (.lst true F), some (.lst true (seen.map tcD)), x5, x6, x7, none, none] = .bk [some B, some R, some (.tup (dInts cs)), some (.lst true F), some (.lst true (seen.map tcD)), x5, some (.lst true HS), x7, none, none] := by
  subst hR
  have gi : gIn (.tup (dInts cs)) (.lst true (seen.map tcD)) = some (.bl (decide (cs ∈ seen))) := by unfold gIn; rw [in_seen]; rfl
  rcases h with h | ⟨h, h2⟩
  · simp [lp__law_chain_1, pR, hlc, gi, h]
  · rcases h2 with rfl | ⟨t, r, HS', rfl, ht⟩
    · simp [lp__law_chain_1, pR, hlc, gi, h]
    · have n : gNe (.str t) (.str (Str.ofString "dict")) = some (.bl true) := by
        show some (D.bl (!(t == Str.ofString "dict"))) = _
        rw [ht]; rfl
      have lp : ((HS'.length : Int) + 1 = 0) = False := by simp; omega
      simp [lp__law_chain_1, pR, hlc, gi, h, ix0, n, lp]
theorem lc_go (B R one : D) (v : Lf) (cs : List Int) (F : List D) (seen : List (List Int)) (x5 x6 x7 : Option D) (HS' : List D) (ps : List D) (RS : List D) (hR : R = .lst false RS) (pR : D.pureL RS = true) (pB : B.pure = true) (ho : one = .tup [.str (Str.ofString "dict"), .tup ps]) (pp : D.pureL ps = true) (lF : F.length < 1000) (lN : seen.length < 1000)
    (hlc : lcL (gTp (gsCons (gNm 8) (gsCons (gNm 9) (gsNil)))) (eT (e2 gEq (eCall 1 d__law_codes (aV (eVar 8) (aNil))) (eVar 2))) (asOwn (eVar 9)) [some B, some R, some (.tup (dInts cs)), some (.lst true F), some (.lst true (seen.map tcD)), x5, x6, x7, none, none] RS [] = .ok (.lst true (one :: HS'))) (h : cs ∉ seen) (hg : d__law_get [B, one, .str (Str.ofString "Parent")] = .ok (lD v)) :
    lp__law_chain_1 [some B, some R, some (.tup (dInts cs)), some (.lst true F), some (.lst true (seen.map tcD)), x5, x6, x7, none, none] = if nmOf v = [] then .bk [some B, some R, some (.tup (dInts cs)), some (.lst true (F ++ [one])), some (.lst true ((seen ++ [cs]).map tcD)), x5, some (.lst true (one :: HS')), some (lD v), none, none]
      else .nx [some B, some R, some (.tup (dInts (nmOf v))), some (.lst true (F ++ [one])), some (.lst true ((seen ++ [cs]).map tcD)), x5, some (.lst true (one :: HS')), some (lD v), none, none] := by
  subst hR ho
  have gi : gIn (.tup (dInts cs)) (.lst true (seen.map tcD)) = some (.bl (decide (cs ∈ seen))) := by unfold gIn; rw [in_seen]; rfl
  have lp : ((HS'.length : Int) + 1 = 0) = False := by simp; omega
  have l1 : F.length < 16777216 := by omega
  have l2 : seen.length < 16777216 := by omega
  have eN : seen.map tcD ++ [D.tup (dInts cs)] = (seen ++ [cs]).map tcD := by rw [List.map_append]; rfl
  cases v with
  | name p =>
    have ge := gEq_nil p
    by_cases e : p = []
    · subst e
      have ge' : gEq (.tup []) (.tup []) = some (.bl true) := rfl
      simp [lp__law_chain_1, callF, pB, pR, hlc, gi, h, ix0, ix1, lp, frzAt, l1, l2, onL, pp, hg, lD, nmOf, ge', -List.map_append, eN]
    · simp [lp__law_chain_1, callF, pB, pR, hlc, gi, h, ix0, ix1, lp, frzAt, l1, l2, onL, pp, hg, lD, nmOf, ge, e, -List.map_append, eN]
  | _ => simp [lp__law_chain_1, callF, pB, pR, hlc, gi, h, ix0, ix1, lp, frzAt, l1, l2, onL, pp, hg, lD, nmOf, -List.map_append, eN]

end
set_option maxRecDepth 100000
set_option maxHeartbeats 4000000
open PySem PySem.Spec PyProof.Rows L2 Dv
noncomputable section
theorem forL_bk {g : D → Dv.Env → Option Dv.Env} {b : Dv.Env → SR} {d : D} {ds : List D} {ρ ρ1 ρ2 : Dv.Env} (e1 : g d ρ = some ρ1) (e2 : b ρ1 = .bk ρ2) : forL g b (d :: ds) ρ = .nx ρ2 := by
  rw [forL_cons, e1]
  simp only [e2]
theorem lc_loop (rows : List Row) (ok : okRows rows) (okn : okNm rows) : ∀ (ks : List D) (cs : List Int) (seen : List (List Int)) (F : List Rw) (x5 x6 x7 : Option D), F.length + ks.length ≤ 100 → seen.length ≤ F.length →
    ∃ z2 z4 z5 z6 z7, forL (gNm 5) lp__law_chain_1 ks [some (bookD rows), some (.lst false (rows.map rowD)), some (.tup (dInts cs)), some (.lst true (F.map rwD)), some (.lst true (seen.map tcD)), x5, x6, x7, none, none] = .nx [some (bookD rows), some (.lst false (rows.map rowD)), z2, some (.lst true ((F ++ chF rows ks.length cs seen).map rwD)), z4, z5, z6, z7, none, none]
  | [], cs, seen, F, x5, x6, x7, _, _ => ⟨_, _, _, _, _, by rw [List.length_nil, chF, List.append_nil]; rfl⟩
  | k :: ks, cs, seen, F, x5, x6, x7, hl, hs => by
    rw [List.length_cons] at hl ⊢
    have hlc := hits_lc (some (bookD rows)) (some (.lst false (rows.map rowD))) (some (.lst true (F.map rwD))) (some (.lst true (seen.map tcD))) (some k) x6 x7 cs rows okn
    have pB := bookD_pure rows
    have pR := rowDs_pure rows
    have hh : (rows.filter fun r => decide (cps r.1 = cs)).head? = rows.find? fun r => decide (cps r.1 = cs) := List.head?_filter ..
    by_cases hi : cs ∈ seen
    · have s := lc_stop (bookD rows) _ cs (F.map rwD) seen (some k) x6 x7 _ _ rfl pR pB hlc (.inl hi)
      exact ⟨_, _, _, _, _, by rw [forL_bk rfl s, chF, if_pos hi, List.append_nil]⟩
    · cases hf : rows.filter (fun r => decide (cps r.1 = cs)) with
      | nil =>
        rw [hf] at hlc hh
        have hr : rowOf rows cs = none := by unfold rowOf; rw [← hh]; rfl
        have s := lc_stop (bookD rows) _ cs (F.map rwD) seen (some k) x6 x7 _ _ rfl pR pB hlc (.inr ⟨hi, .inl rfl⟩)
        exact ⟨_, _, _, _, _, by rw [forL_bk rfl s, chF, if_neg hi, hr, List.append_nil]⟩
      | cons r rs =>
        rw [hf] at hlc hh
        have hr : rowOf rows cs = some r.2 := by unfold rowOf; rw [← hh]; rfl
        cases hv : r.2 with
        | lst =>
          rw [hv] at hr
          rw [List.map_cons, hv] at hlc
          have s := lc_stop (bookD rows) _ cs (F.map rwD) seen (some k) x6 x7 _ _ rfl pR pB hlc (.inr ⟨hi, .inr ⟨Str.ofString "list", [.tup []], _, rfl, by decide +kernel⟩⟩)
          exact ⟨_, _, _, _, _, by rw [forL_bk rfl s, chF, if_neg hi, hr, List.append_nil]⟩
        | dct ps =>
          rw [hv] at hr
          rw [List.map_cons, hv] at hlc
          have okp : okR ps := rowOf_ok ok hr
          have hg : d__law_get [bookD rows, rwD ps, .str (Str.ofString "Parent")] = .ok (lD (kF ps (cps kParent))) := m_lget rows ps okp (Str.ofString "Parent") okParent
          have s := lc_go (bookD rows) _ (rwD ps) _ cs (F.map rwD) seen (some k) x6 x7 _ _ _ rfl pR pB rfl (prs_pure _ (lPs_pure ps)) (by rw [List.length_map]; omega) (by omega) hlc hi hg
          have eF : F.map rwD ++ [rwD ps] = (F ++ [ps]).map rwD := by rw [List.map_append]; rfl
          rw [eF] at s
          by_cases e : nmOf (kF ps (cps kParent)) = []
          · rw [if_pos e] at s
            exact ⟨_, _, _, _, _, by rw [forL_bk rfl s, chF, if_neg hi, hr]; simp only; rw [if_pos e]⟩
          · rw [if_neg e] at s
            obtain ⟨z2, z4, z5, z6, z7, h⟩ := lc_loop rows ok okn ks (nmOf (kF ps (cps kParent))) (seen ++ [cs]) (F ++ [ps]) (some k) _ _ (by rw [List.length_append]; simp; omega) (by rw [List.length_append, List.length_append]; simp; omega)
            refine ⟨z2, z4, z5, z6, z7, (forL_nx rfl s h).trans ?_⟩
            rw [chF, if_neg hi, hr]
            simp only
            rw [if_neg e, List.append_assoc]; rfl
theorem lc_end (B : D) (RS L : List D) (cs : List Int) (pR : D.pureL RS = true) (h : ∃ z2 z4 z5 z6 z7, forL (gNm 5) lp__law_chain_1 (rngL 0 8) [some B, some (.lst false RS), some (.tup (dInts cs)), some (.lst true []), some (.lst true []), none, none, none, none, none] = .nx [some B, some (.lst false RS), z2, some (.lst true L), z4, z5, z6, z7, none, none]) : d__law_chain [B, .lst false RS, .tup (dInts cs)] = .ok (.lst true L) := by
  obtain ⟨z2, z4, z5, z6, z7, h⟩ := h
  simp [d__law_chain, b__law_chain, fnD, h]
theorem m_lchain (rows : List Row) (ok : okRows rows) (okn : okNm rows) (cs : List Int) : d__law_chain [bookD rows, .lst false (rows.map rowD), .tup (dInts cs)] = .ok (.lst true ((chF rows 8 cs []).map rwD)) := by
  have := lc_loop rows ok okn (rngL 0 8) cs [] [] none none none (by rw [rngL_len]; simp) (by simp)
  rw [rngL_len] at this
  exact lc_end _ _ _ cs (rowDs_pure rows) this
/-! the law's first -/
theorem lf_int (x1 : Option D) (B P : D) (x : Str) (lo hi : Int) (z7 : Option D) (v : Lf) (pB : B.pure = true) (pP : P.pure = true) (h : d__law_get [B, P, .str x] = .ok (lD v)) :
    lp__law_first_1 [some B, x1, some (.str x), some (.str (Str.ofString "int")), some (.int lo), some (.int hi), some P, z7] = if inR lo hi v = true then .rt (ivD v) [some B, x1, some (.str x), some (.str (Str.ofString "int")), some (.int lo), some (.int hi), some P, some (lD v)] else .nx [some B, x1, some (.str x), some (.str (Str.ofString "int")), some (.int lo), some (.int hi), some P, some (lD v)] := by
  cases v with
  | int v =>
    by_cases a : lo ≤ v <;> by_cases b : v ≤ hi <;> simp [lp__law_first_1, callF, pB, pP, h, lD, ix0, ix1, e3, inR, ivD, a, b]
  | _ => simp [lp__law_first_1, callF, pB, pP, h, lD, ix0, ix1, inR]
theorem lf_name (x1 : Option D) (B P : D) (x : Str) (lo hi : Int) (z7 : Option D) (v : Lf) (pB : B.pure = true) (pP : P.pure = true) (h : d__law_get [B, P, .str x] = .ok (lD v)) :
    lp__law_first_1 [some B, x1, some (.str x), some (.str (Str.ofString "name")), some (.int lo), some (.int hi), some P, z7] = if isN (fun _ => true) v = true then .rt (nvD v) [some B, x1, some (.str x), some (.str (Str.ofString "name")), some (.int lo), some (.int hi), some P, some (lD v)] else .nx [some B, x1, some (.str x), some (.str (Str.ofString "name")), some (.int lo), some (.int hi), some P, some (lD v)] := by
  cases v with
  | name cs => simp [lp__law_first_1, callF, pB, pP, h, lD, ix0, ix1, isN, nvD]
  | _ => simp [lp__law_first_1, callF, pB, pP, h, lD, ix0, ix1, isN]
theorem lf_end (B k : D) (L : List D) (x : Str) (lo hi : Int) (v : D) (pL : D.pureL L = true) (h : (∃ ρ', forL (gNm 6) lp__law_first_1 L [some B, some (.lst false L), some (.str x), some k, some (.int lo), some (.int hi), none, none] = .rt v ρ') ∨ (v = .non ∧ ∃ ρ', forL (gNm 6) lp__law_first_1 L [some B, some (.lst false L), some (.str x), some k, some (.int lo), some (.int hi), none, none] = .nx ρ')) :
    d__law_first [B, .lst false L, .str x, k, .int lo, .int hi] = .ok v := by
  rcases h with ⟨ρ', h⟩ | ⟨rfl, ρ', h⟩
  · simp [d__law_first, b__law_first, fnD, pL, h]
  · simp [d__law_first, b__law_first, fnD, pL, h]
theorem m_lfirst_int (rows : List Row) (ds : List Rw) (ok : okDs ds) (x : Str) (hx : okS x) (lo hi : Int) : d__law_first [bookD rows, .lst false (ds.map rwD), .str x, .str (Str.ofString "int"), .int lo, .int hi] = .ok (((fst ds (cps x) (inR lo hi)).map ivD).getD .non) := by
  refine lf_end _ _ _ x lo hi _ (rws_pure ds) ?_
  rw [fst_find]
  rcases for_find2 rwD (g := gNm 6) (b := lp__law_first_1) (fun ps => inR lo hi (kF ps (cps x))) (fun ps => ivD (kF ps (cps x))) (fun ρ => ∃ y z, ρ = [some (bookD rows), some (.lst false (ds.map rwD)), some (.str x), some (.str (Str.ofString "int")), some (.int lo), some (.int hi), y, z]) ds [some (bookD rows), some (.lst false (ds.map rwD)), some (.str x), some (.str (Str.ofString "int")), some (.int lo), some (.int hi), none, none] (fun ps hp ρ H => by
    obtain ⟨y, z, rfl⟩ := H
    have c := lf_int (some (.lst false (ds.map rwD))) (bookD rows) (rwD ps) x lo hi z _ (bookD_pure rows) (dcD_pure _ (lPs_pure ps)) (m_lget rows ps (ok ps hp) x hx)
    exact ⟨_, _, rfl, c, _, _, rfl⟩) ⟨none, none, rfl⟩ with ⟨ps, ρ', e1, e2⟩ | ⟨e1, ρ', e2, _⟩
  · exact .inl ⟨ρ', by rw [e1]; exact e2⟩
  · exact .inr ⟨by rw [e1]; rfl, ρ', e2⟩
theorem m_lfirst_name (rows : List Row) (ds : List Rw) (ok : okDs ds) (x : Str) (hx : okS x) (lo hi : Int) : d__law_first [bookD rows, .lst false (ds.map rwD), .str x, .str (Str.ofString "name"), .int lo, .int hi] = .ok (((fst ds (cps x) (isN fun _ => true)).map nvD).getD .non) := by
  refine lf_end _ _ _ x lo hi _ (rws_pure ds) ?_
  rw [fst_find]
  rcases for_find2 rwD (g := gNm 6) (b := lp__law_first_1) (fun ps => isN (fun _ => true) (kF ps (cps x))) (fun ps => nvD (kF ps (cps x))) (fun ρ => ∃ y z, ρ = [some (bookD rows), some (.lst false (ds.map rwD)), some (.str x), some (.str (Str.ofString "name")), some (.int lo), some (.int hi), y, z]) ds [some (bookD rows), some (.lst false (ds.map rwD)), some (.str x), some (.str (Str.ofString "name")), some (.int lo), some (.int hi), none, none] (fun ps hp ρ H => by
    obtain ⟨y, z, rfl⟩ := H
    have c := lf_name (some (.lst false (ds.map rwD))) (bookD rows) (rwD ps) x lo hi z _ (bookD_pure rows) (dcD_pure _ (lPs_pure ps)) (m_lget rows ps (ok ps hp) x hx)
    exact ⟨_, _, rfl, c, _, _, rfl⟩) ⟨none, none, rfl⟩ with ⟨ps, ρ', e1, e2⟩ | ⟨e1, ρ', e2, _⟩
  · exact .inl ⟨ρ', by rw [e1]; exact e2⟩
  · exact .inr ⟨by rw [e1]; rfl, ρ', e2⟩
theorem m_lor (c : Option Int) (o : Int) : d__law_or [ioD c, .int o] = .ok (.int (c.getD o)) := by
  cases c with
  | none =>
    have g : gIs .non .non = some (.bl true) := rfl
    simp [d__law_or, b__law_or, fnD, ioD, g]
  | some v =>
    have g : gIs (.int v) .non = some (.bl false) := rfl
    simp [d__law_or, b__law_or, fnD, ioD, g]
/-! near -/
theorem kF_ok (ps : Rw) (ok : okR ps) (cs : List Int) : okL (kF ps cs) ∧ ∀ n, kF ps cs ≠ .ref n := by
  unfold kF
  cases e : ps.find? (fun p => decide (p.1 = cs)) with
  | none => exact ⟨trivial, fun n z => by cases z⟩
  | some p =>
    have o := ok p (List.mem_of_find?_eq_some e)
    show okL (lkF p.2) ∧ ∀ n, lkF p.2 ≠ .ref n
    generalize p.2 = v at o ⊢
    cases v with
    | ref n =>
      show okL (vOf n) ∧ ∀ m, vOf n ≠ .ref m
      unfold vOf
      split
      · exact ⟨⟨by omega, by omega⟩, fun m z => by cases z⟩
      · exact ⟨trivial, fun m z => by cases z⟩
    | int n => exact ⟨o, fun m z => by cases z⟩
    | _ => exact ⟨trivial, fun m z => by cases z⟩
theorem fst_any (ds : List Rw) (ok : okDs ds) (cs : List Int) : fst ds cs (inR (-5000000000) 5000000000) = fst ds cs isInt := by
  rw [fst_find, fst_find]
  congr 1
  induction ds with
  | nil => rfl
  | cons d ds ih =>
    rw [List.find?_cons, List.find?_cons, ih fun p hp => ok p (List.mem_cons_of_mem _ hp)]
    have : inR (-5000000000) 5000000000 (kF d cs) = isInt (kF d cs) := by
      have o := (kF_ok d (ok d List.mem_cons_self) cs).1
      cases h : kF d cs with
      | int v => rw [h] at o; exact decide_eq_true o
      | _ => rfl
    rw [this]
theorem ln_none (B L : D) (x : Str) (lo hi o : Int) (pB : B.pure = true) (pL : L.pure = true) (h : d__law_first [B, L, .str x, .str (Str.ofString "int"), .int (-5000000000), .int 5000000000] = .ok .non) : d__law_near [B, L, .str x, .int lo, .int hi, .int o] = .ok (.int o) := by
  have g : gIs .non .non = some (.bl true) := rfl
  simp [d__law_near, b__law_near, fnD, callF, pB, pL, h, g]
theorem ln_some (B L : D) (x : Str) (lo hi o v : Int) (pB : B.pure = true) (pL : L.pure = true) (h : d__law_first [B, L, .str x, .str (Str.ofString "int"), .int (-5000000000), .int 5000000000] = .ok (.int v)) : d__law_near [B, L, .str x, .int lo, .int hi, .int o] = .ok (.int (clamp lo hi v)) := by
  have g : gIs (.int v) .non = some (.bl false) := rfl
  have e : (if (if v < hi then v else hi) > lo then (if v < hi then v else hi) else lo) = clamp lo hi v := rfl
  simp [d__law_near, b__law_near, fnD, callF, pB, pL, h, g]
  exact e
theorem m_lnear (rows : List Row) (ds : List Rw) (ok : okDs ds) (x : Str) (hx : okS x) (lo hi o : Int) : d__law_near [bookD rows, .lst false (ds.map rwD), .str x, .int lo, .int hi, .int o] = .ok (bdF ds (cps x) lo hi o) := by
  have h := m_lfirst_int rows ds ok x hx (-5000000000) 5000000000
  rw [fst_any ds ok] at h
  have pL : (D.lst false (ds.map rwD)).pure = true := by have := rws_pure ds; simp [this]
  unfold bdF
  cases e : fst ds (cps x) isInt with
  | none => rw [e] at h; exact ln_none _ _ x lo hi o (bookD_pure rows) pL h
  | some v =>
    rw [e] at h
    have p : isInt v = true := List.find?_some e
    cases v with
    | int v => exact ln_some _ _ x lo hi o v (bookD_pure rows) pL h
    | _ => exact absurd p (by simp [isInt])

end
set_option maxRecDepth 100000
set_option maxHeartbeats 4000000
open PySem PySem.Spec PyProof.Rows L2 Dv
noncomputable section
theorem m_lname (x : Str) (hx : okS x) : d__law_name [.str x] = .ok (lD (.name (cps x))) := by
  have h := m_lcodes x hx
  simp [d__law_name, b__law_name, fnD, callF, h, lD]
theorem tag_ok : ∀ t ∈ [Str.ofString "none", Str.ofString "text", Str.ofString "ref", Str.ofString "bool", Str.ofString "name", Str.ofString "int", Str.ofString "list", Str.ofString "dict"], PyData.strOk t = true := by decide +kernel
theorem lD_lay (k : Nat) (v : Lf) : D.lay (k + 2) (lD v) = true := by
  have t := tag_ok
  cases v with
  | name cs => show (D.lay (k + 1) (.str _) && (D.lay (k + 1) (.tup (dInts cs)) && true)) = true; rw [lay_str, lay_tup, dInts_lay, t _ (by simp)]; rfl
  | _ => simp [lD, t]
theorem eqv_tag (a b : Str) (r t : List PyData) : PyData.eqv (.tuple (.str a :: r)) (.tuple (.str b :: t)) = ((a == b) && PyData.eqvAll r t) := rfl
theorem eqv_tagF {a b : Str} {r t : List PyData} (h : (a == b) = false) : PyData.eqv (.tuple (.str a :: r)) (.tuple (.str b :: t)) = false := by
  rw [eqv_tag, h]; rfl
theorem inLl : inL3 (cps (Str.ofString "Left")) = true := by decide +kernel
theorem inLm : inL3 (cps (Str.ofString "Middle")) = true := by decide +kernel
theorem inLr : inL3 (cps (Str.ofString "Right")) = true := by decide +kernel
theorem eq_nm (v : Lf) (ws : List Int) : gEq (lD v) (lD (.name ws)) = some (.bl (isN (fun cs => decide (cs = ws)) v)) := by
  have h1 := lD_lay 58 v
  have h2 := lD_lay 58 (.name ws)
  have e : gEq (lD v) (lD (.name ws)) = some (.bl (D.eqv (lD v) (lD (.name ws)))) := by
    cases v <;> (show (if D.lay 60 _ = true ∧ D.lay 60 _ = true then some _ else none) = _; rw [if_pos ⟨h1, h2⟩])
  rw [e]
  congr 2
  unfold D.eqv
  have n1 : (Str.ofString "none" == Str.ofString "name") = false := by decide +kernel
  have n2 : (Str.ofString "text" == Str.ofString "name") = false := by decide +kernel
  have n3 : (Str.ofString "ref" == Str.ofString "name") = false := by decide +kernel
  have n4 : (Str.ofString "bool" == Str.ofString "name") = false := by decide +kernel
  have n5 : (Str.ofString "int" == Str.ofString "name") = false := by decide +kernel
  have n6 : (Str.ofString "list" == Str.ofString "name") = false := by decide +kernel
  cases v with
  | name cs =>
    show ((Str.ofString "name" == Str.ofString "name") && (PyData.eqv (.tuple (D.toPL (dInts cs))) (.tuple (D.toPL (dInts ws))) && true)) = decide (cs = ws)
    rw [PyData.eqv, dInts_eqvAll]
    by_cases h : cs = ws
    · subst h; simp
    · rw [decide_eq_false h, beq_false_of_ne h]; simp
  | none => exact eqv_tagF n1
  | text => exact eqv_tagF n2
  | ref n => exact eqv_tagF n3
  | bol => exact eqv_tagF n4
  | int n => exact eqv_tagF n5
  | lst => exact eqv_tagF n6
theorem la2_core (x0 x1 x2 : Option D) (v : Lf) (w : Str) (hw : okS w) : lp__law_align_2 [x0, x1, x2, some (lD v), some (.str w)] = if isN (fun cs => decide (cs = cps w)) v = true then .rt (.str w) [x0, x1, x2, some (lD v), some (.str w)] else .nx [x0, x1, x2, some (lD v), some (.str w)] := by
  have h := m_lname w hw
  have g := eq_nm v (cps w)
  generalize lD v = d at *
  cases hb : isN (fun cs => decide (cs = cps w)) v with
  | true => simp [lp__law_align_2, callF, h, g, hb]
  | false => simp [lp__law_align_2, callF, h, g, hb]
theorem la2_loop (x0 x1 x2 : Option D) (v : Lf) (z : Option D) : (isN inL3 v = true ∧ ∃ ρ', forL (gNm 4) lp__law_align_2 [.str (Str.ofString "Left"), .str (Str.ofString "Middle"), .str (Str.ofString "Right")] [x0, x1, x2, some (lD v), z] = .rt (.str (((nvO v).map wordF).getD (Str.ofString "Left"))) ρ') ∨ (isN inL3 v = false ∧ ∃ z', forL (gNm 4) lp__law_align_2 [.str (Str.ofString "Left"), .str (Str.ofString "Middle"), .str (Str.ofString "Right")] [x0, x1, x2, some (lD v), z] = .nx [x0, x1, x2, some (lD v), z']) := by
  have s1 := la2_core x0 x1 x2 v _ okL'
  have s2 := la2_core x0 x1 x2 v _ okM'
  have s3 := la2_core x0 x1 x2 v _ okR'
  have n4 : (cps (Str.ofString "Middle") = cps (Str.ofString "Left")) = False := eq_false (by decide +kernel)
  have n5 : (cps (Str.ofString "Right") = cps (Str.ofString "Left")) = False := eq_false (by decide +kernel)
  have n6 : (cps (Str.ofString "Right") = cps (Str.ofString "Middle")) = False := eq_false (by decide +kernel)
  cases v with
  | name cs =>
    by_cases h1 : cs = cps (Str.ofString "Left")
    · refine .inl ⟨?_, ?_⟩
      · subst h1; exact inLl
      · have : isN (fun c => decide (c = cps (Str.ofString "Left"))) (.name cs) = true := decide_eq_true h1
        rw [this, if_pos rfl] at s1
        rw [show ((nvO (.name cs)).map wordF).getD (Str.ofString "Left") = Str.ofString "Left" by subst h1; simp [nvO, wordF]]
        exact ⟨_, forL_rt rfl s1⟩
    · have b1 : isN (fun c => decide (c = cps (Str.ofString "Left"))) (.name cs) = false := decide_eq_false h1
      rw [b1, if_neg Bool.false_ne_true] at s1
      by_cases h2 : cs = cps (Str.ofString "Middle")
      · refine .inl ⟨?_, ?_⟩
        · subst h2; exact inLm
        · have : isN (fun c => decide (c = cps (Str.ofString "Middle"))) (.name cs) = true := decide_eq_true h2
          rw [this, if_pos rfl] at s2
          have a1 : ¬ cps (Str.ofString "Left") = cs := fun e => h1 e.symm
          rw [show ((nvO (.name cs)).map wordF).getD (Str.ofString "Left") = Str.ofString "Middle" by subst h2; simp [nvO, wordF, a1]]
          exact ⟨_, forL_nx rfl s1 (forL_rt rfl s2)⟩
      · have b2 : isN (fun c => decide (c = cps (Str.ofString "Middle"))) (.name cs) = false := decide_eq_false h2
        rw [b2, if_neg Bool.false_ne_true] at s2
        by_cases h3 : cs = cps (Str.ofString "Right")
        · refine .inl ⟨?_, ?_⟩
          · subst h3; exact inLr
          · have : isN (fun c => decide (c = cps (Str.ofString "Right"))) (.name cs) = true := decide_eq_true h3
            rw [this, if_pos rfl] at s3
            have a1 : ¬ cps (Str.ofString "Left") = cs := fun e => h1 e.symm
            have a2 : ¬ cps (Str.ofString "Middle") = cs := fun e => h2 e.symm
            rw [show ((nvO (.name cs)).map wordF).getD (Str.ofString "Left") = Str.ofString "Right" by simp [nvO, wordF, a1, a2]]
            exact ⟨_, forL_nx rfl s1 (forL_nx rfl s2 (forL_rt rfl s3))⟩
        · have b3 : isN (fun c => decide (c = cps (Str.ofString "Right"))) (.name cs) = false := decide_eq_false h3
          rw [b3, if_neg Bool.false_ne_true] at s3
          exact .inr ⟨(decide_eq_false (show ¬ cs ∈ L3 by unfold L3; simp [h1, h2, h3]) : inL3 cs = false), _, forL_nx rfl s1 (forL_nx rfl s2 (forL_nx rfl s3 rfl))⟩
  | _ =>
    refine .inr ⟨rfl, _, forL_nx rfl s1 (forL_nx rfl s2 (forL_nx rfl s3 rfl))⟩
theorem la1_rt (B P v : D) (x1 x3 x4 : Option D) (r : D) (pB : B.pure = true) (pP : P.pure = true) (h : d__law_get [B, P, .str (Str.ofString "Align")] = .ok v) (hl : ∃ ρ', forL (gNm 4) lp__law_align_2 [.str (Str.ofString "Left"), .str (Str.ofString "Middle"), .str (Str.ofString "Right")] [some B, x1, some P, some v, x4] = .rt r ρ') : ∃ ρ', lp__law_align_1 [some B, x1, some P, x3, x4] = .rt r ρ' := by
  obtain ⟨ρ', hl⟩ := hl
  exact ⟨ρ', by simp [lp__law_align_1, callF, pB, pP, h, hl]⟩
theorem la1_nx (B P v : D) (x1 x3 x4 z' : Option D) (pB : B.pure = true) (pP : P.pure = true) (h : d__law_get [B, P, .str (Str.ofString "Align")] = .ok v) (hl : forL (gNm 4) lp__law_align_2 [.str (Str.ofString "Left"), .str (Str.ofString "Middle"), .str (Str.ofString "Right")] [some B, x1, some P, some v, x4] = .nx [some B, x1, some P, some v, z']) : lp__law_align_1 [some B, x1, some P, x3, x4] = .nx [some B, x1, some P, some v, z'] := by
  simp [lp__law_align_1, callF, pB, pP, h, hl]
theorem la_end (B : D) (L : List D) (v : D) (pL : D.pureL L = true) (h : (∃ ρ', forL (gNm 2) lp__law_align_1 L [some B, some (.lst false L), none, none, none] = .rt v ρ') ∨ (v = .str (Str.ofString "Left") ∧ ∃ ρ', forL (gNm 2) lp__law_align_1 L [some B, some (.lst false L), none, none, none] = .nx ρ')) :
    d__law_align [B, .lst false L] = .ok v := by
  rcases h with ⟨ρ', h⟩ | ⟨rfl, ρ', h⟩
  · simp [d__law_align, b__law_align, fnD, pL, h]
  · simp [d__law_align, b__law_align, fnD, pL, h]
theorem m_lalign (rows : List Row) (ds : List Rw) (ok : okDs ds) : d__law_align [bookD rows, .lst false (ds.map rwD)] = .ok (.str (alignF ds)) := by
  refine la_end _ _ _ (rws_pure ds) ?_
  unfold alignF
  rw [fst_find]
  rcases for_find rwD (g := gNm 2) (b := lp__law_align_1) (fun ps => isN inL3 (kF ps (cps (Str.ofString "Align")))) (fun ps => .str (((nvO (kF ps (cps (Str.ofString "Align")))).map wordF).getD (Str.ofString "Left"))) (fun ρ => ∃ x y z, ρ = [some (bookD rows), some (.lst false (ds.map rwD)), x, y, z]) ds [some (bookD rows), some (.lst false (ds.map rwD)), none, none, none] (fun ps hp ρ H => by
    obtain ⟨x, y, z, rfl⟩ := H
    have hg := m_lget rows ps (ok ps hp) (Str.ofString "Align") (by unfold okS; decide +kernel)
    have pP : (rwD ps).pure = true := dcD_pure _ (lPs_pure ps)
    rcases la2_loop (some (bookD rows)) (some (.lst false (ds.map rwD))) (some (rwD ps)) (kF ps (cps (Str.ofString "Align"))) z with ⟨a, b⟩ | ⟨a, z', b⟩
    · obtain ⟨ρ', c⟩ := la1_rt (bookD rows) (rwD ps) _ (some (.lst false (ds.map rwD))) y z _ (bookD_pure rows) pP hg b
      exact ⟨_, ρ', rfl, .inl ⟨a, c⟩⟩
    · exact ⟨_, _, rfl, .inr ⟨a, .inl (la1_nx (bookD rows) (rwD ps) _ (some (.lst false (ds.map rwD))) y z z' (bookD_pure rows) pP hg b), _, _, _, rfl⟩⟩) ⟨none, none, none, rfl⟩ with ⟨ps, ρ', e1, e2⟩ | ⟨e1, ρ', e2, _⟩
  · exact .inl ⟨ρ', by rw [e1]; exact e2⟩
  · exact .inr ⟨by rw [e1]; rfl, ρ', e2⟩
theorem due_core (B R : D) (cs : List Int) (DS : List D) (f sz ind gp : D) (c b : Option Int) (al : Str) (pB : B.pure = true) (pR : R.pure = true) (cD' : D.coldL DS = true) (fD : D.frzL DS = DS) (h0 : d__law_chain [B, R, .tup (dInts cs)] = .ok (.lst true DS))
    (h1 : d__law_first [B, .lst false DS, .str (Str.ofString "Color"), .str (Str.ofString "int"), .int 0, .int 16777215] = .ok (ioD c)) (h2 : d__law_first [B, .lst false DS, .str (Str.ofString "Back"), .str (Str.ofString "int"), .int 0, .int 16777215] = .ok (ioD b)) (h1' : d__law_or [ioD c, .int 0] = .ok (.int (c.getD 0))) (h2' : d__law_or [ioD b, .int (-1)] = .ok (.int (b.getD (-1))))
    (h3 : d__law_align [B, .lst false DS] = .ok (.str al)) (h4 : d__law_first [B, .lst false DS, .str (Str.ofString "Font"), .str (Str.ofString "name"), .int 0, .int 0] = .ok f)
    (h5 : d__law_near [B, .lst false DS, .str (Str.ofString "Size"), .int 1, .int 8, .int 4] = .ok sz) (h6 : d__law_near [B, .lst false DS, .str (Str.ofString "Indent"), .int 0, .int 64, .int 0] = .ok ind) (h7 : d__law_near [B, .lst false DS, .str (Str.ofString "Gap"), .int 0, .int 64, .int 0] = .ok gp)
    (nf : f.noFz = true) (ns : sz.noFz = true) (ni : ind.noFz = true) (ng : gp.noFz = true) :
    d__law_due [B, R, .tup (dInts cs)] = .ok (.tup [f, sz, .int (c.getD 0), .int (b.getD (-1)), .str al, ind, gp]) := by
  have fB := p_frz pB
  have cB := p_cold pB
  cases c <;> cases b <;> simp only [ioD, Option.getD_none, Option.getD_some] at * <;>
    simp [d__law_due, b__law_due, fnD, callF, pB, pR, fB, cB, cD', fD, h0, h1, h2, h1', h2', h3, h4, h5, h6, h7, nf, ns, ni, ng]
theorem m_due (rows : List Row) (ok : okRows rows) (okn : okNm rows) (cs : List Int) : d__law_due [bookD rows, .lst false (rows.map rowD), .tup (dInts cs)] = .ok (styD (chF rows 8 cs [])) := by
  have okd := chF_ok rows ok 8 cs []
  have h0 := m_lchain rows ok okn cs
  generalize chF rows 8 cs [] = ds at *
  have pL := rws_pure ds
  have h1 := m_lfirst_int rows ds okd (Str.ofString "Color") (by unfold okS; decide +kernel) 0 16777215
  have h2 := m_lfirst_int rows ds okd (Str.ofString "Back") (by unfold okS; decide +kernel) 0 16777215
  have h3 := m_lalign rows ds okd
  have h4 := m_lfirst_name rows ds okd (Str.ofString "Font") (by unfold okS; decide +kernel) 0 0
  have h5 := m_lnear rows ds okd (Str.ofString "Size") (by unfold okS; decide +kernel) 1 8 4
  have h6 := m_lnear rows ds okd (Str.ofString "Indent") (by unfold okS; decide +kernel) 0 64 0
  have h7 := m_lnear rows ds okd (Str.ofString "Gap") (by unfold okS; decide +kernel) 0 64 0
  rw [iv_io] at h1 h2
  rw [nv_no] at h4
  have nb : ∀ (c : List Int) (lo hi o : Int), (bdF ds c lo hi o).noFz = true := fun c lo hi o => by
    obtain ⟨v, e⟩ := bdF_int ds c lo hi o
    rw [e]; rfl
  have nf : (fontD ds).noFz = true := by
    rcases fontD_cases ds with e | ⟨cs, e⟩
    · rw [e]; rfl
    · rw [e]; simp
  have pR : (D.lst false (rows.map rowD)).pure = true := by have := rowDs_pure rows; simp [this]
  exact due_core (bookD rows) _ cs (ds.map rwD) _ _ _ _ _ _ _ (bookD_pure rows) pR (D.pureL_cold _ pL) (D.pureL_frzL _ pL) h0 h1 h2 (m_lor _ _) (m_lor _ _) h3 h4 h5 h6 h7 nf (nb ..) (nb ..) (nb ..)

end
set_option maxRecDepth 100000
set_option maxHeartbeats 4000000
open PySem PySem.Spec PyProof.Rows L2 Dv
noncomputable section
/-! what is drawn -/
def pz : List Str → List D → List (List Int × D)
  | n :: ns, v :: vs => (if Dv.isNon v = true then [] else [(cps n, v)]) ++ pz ns vs
  | _, _ => []
theorem pz_app : ∀ (ns : List Str) (vs : List D) (n : Str) (v : D), ns.length = vs.length → pz (ns ++ [n]) (vs ++ [v]) = pz ns vs ++ (if Dv.isNon v = true then [] else [(cps n, v)])
  | [], [], n, v, _ => by simp [pz]
  | [], w :: vs, n, v, h => by simp at h
  | m :: ns, [], n, v, h => by simp at h
  | m :: ns, w :: vs, n, v, h => by
    rw [List.cons_append, List.cons_append, pz, pz, pz_app ns vs n v (by simpa using h), List.append_assoc]
theorem pz_len : ∀ (ns : List Str) (vs : List D), (pz ns vs).length ≤ ns.length
  | [], _ => by simp [pz]
  | _ :: _, [] => by simp [pz]
  | n :: ns, v :: vs => by
    have := pz_len ns vs
    rw [pz, List.length_append, List.length_cons]
    split <;> simp <;> omega
theorem ld_core (x0 x1 : Option D) (N V : List D) (A : List D) (k : Int) (z : Option D) (n : Str) (v : D) (hN : x0 = some (.lst false N)) (hV : x1 = some (.lst false V)) (hn : ixD N k = some (.str n)) (hv : ixD V k = some v) (pv : v.pure = true) (hc : d__law_codes [.str n] = .ok (.tup (dInts (cps n)))) (hA : A.length < 16777216) :
    lp__law_dict_1 [x0, x1, some (.lst true A), some (.int k)] = .nx [x0, x1, some (.lst true (A ++ (if Dv.isNon v = true then [] else [.tup [.tup (dInts (cps n)), v]]))), some (.int k)] := by
  subst hN hV
  cases h : Dv.isNon v with
  | true => simp [lp__law_dict_1, hv, h]
  | false => simp [lp__law_dict_1, callF, hn, hv, hc, pv, h, onL, hA]
theorem ld_end (N V A : List D) (n : Int) (M : Nat) (z : Option D) (pA : D.pureL A = true) (hn : (N.length : Int) = n) (wn : W62 n) (hM : n.toNat = M) (h : forL (gNm 3) lp__law_dict_1 (rngL 0 M) [some (.lst false N), some (.lst false V), some (.lst true []), none] = .nx [some (.lst false N), some (.lst false V), some (.lst true A), z]) :
    d__law_dict [.lst false N, .lst false V] = .ok (.tup [.str (Str.ofString "dict"), .tup A]) := by
  simp [d__law_dict, b__law_dict, fnD, hn, wn, hM, h, pA]
theorem mem_pz : ∀ (ns : List Str) (vs : List D) (p : List Int × D), p ∈ pz ns vs → p.2 ∈ vs
  | [], _, p, h => by simp [pz] at h
  | _ :: _, [], p, h => by simp [pz] at h
  | n :: ns, v :: vs, p, h => by
    rw [pz] at h
    rcases List.mem_append.mp h with h | h
    · split at h
      · cases h
      · rw [List.mem_singleton.mp h]; exact List.mem_cons_self
    · exact List.mem_cons_of_mem _ (mem_pz ns vs p h)
theorem m_ldict (ns : List Str) (vs : List D) (hl : ns.length = vs.length) (ln : ns.length ≤ 1000) (on : ∀ n ∈ ns, okS n) (pv : ∀ v ∈ vs, v.pure = true) : d__law_dict [.lst false (ns.map .str), .lst false vs] = .ok (dcD (pz ns vs)) := by
  obtain ⟨ρ', e, z, rfl⟩ := for_rng (g := gNm 3) (b := lp__law_dict_1) (fun j ρ => ∃ z, ρ = [some (.lst false (ns.map .str)), some (.lst false vs), some (.lst true ((pz (ns.take j) (vs.take j)).map prD)), z]) ns.length [some (.lst false (ns.map .str)), some (.lst false vs), some (.lst true []), none] (fun j ρ hj I => by
    obtain ⟨z, rfl⟩ := I
    have hv : j < vs.length := by omega
    have c := ld_core _ _ (ns.map .str) vs ((pz (ns.take j) (vs.take j)).map prD) j none ns[j] vs[j] rfl rfl (by rw [ixD_nat, List.getElem?_map, List.getElem?_eq_getElem hj]; rfl) (by rw [ixD_nat, List.getElem?_eq_getElem hv]) (pv _ (List.getElem_mem hv)) (m_lcodes _ (on _ (List.getElem_mem hj))) (by
      have := pz_len (ns.take j) (vs.take j)
      rw [List.length_map]
      rw [List.length_take] at this
      omega)
    refine ⟨_, _, rfl, .inl c, some (.int (j : Int)), ?_⟩
    have e1 : ns.take (j + 1) = ns.take j ++ [ns[j]] := by rw [List.take_add_one, List.getElem?_eq_getElem hj]; rfl
    have e2 : vs.take (j + 1) = vs.take j ++ [vs[j]] := by rw [List.take_add_one, List.getElem?_eq_getElem hv]; rfl
    rw [e1, e2, pz_app _ _ _ _ (by rw [List.length_take, List.length_take]; omega), List.map_append]
    congr 4
    split <;> rfl) ⟨none, rfl⟩
  rw [List.take_of_length_le (by omega), List.take_of_length_le (by omega)] at e
  exact ld_end _ _ _ _ ns.length z (prs_pure _ fun p hp => pv _ (mem_pz ns vs p hp)) (by rw [List.length_map]) (w62 (by omega) (by omega)) (Int.toNat_natCast _) e
def oD : Option Lf → D
  | some v => lD v
  | none => .non
theorem oD_pure (o : Option Lf) : (oD o).pure = true := by
  cases o with
  | none => rfl
  | some v => exact lD_pure v
def opL (n : Str) : Option Lf → Rw
  | some l => [(cps n, l)]
  | none => []
def pzL : List Str → List (Option Lf) → Rw
  | [], _ => []
  | _ :: _, [] => []
  | n :: ns, v :: vs => opL n v ++ pzL ns vs
theorem pz_oD : ∀ (ns : List Str) (vs : List (Option Lf)), pz ns (vs.map oD) = lPs (pzL ns vs)
  | [], _ => rfl
  | _ :: _, [] => rfl
  | n :: ns, v :: vs => by
    rw [List.map_cons, pz, pzL, pz_oD ns vs]
    unfold lPs
    rw [List.map_append]
    cases v with
    | none => rfl
    | some l => cases l <;> rfl
theorem pzL_ok : ∀ (ns : List Str) (vs : List (Option Lf)), (∀ l, some l ∈ vs → okL l) → okR (pzL ns vs)
  | [], _, _ => by intro p h; simp [pzL] at h
  | _ :: _, [], _ => by intro p h; simp [pzL] at h
  | n :: ns, v :: vs, ok => by
    intro p hp
    rw [pzL] at hp
    rcases List.mem_append.mp hp with hp | hp
    · cases v with
      | none => cases hp
      | some l => rw [List.mem_singleton.mp hp]; exact ok l List.mem_cons_self
    · exact pzL_ok ns vs (fun l hl => ok l (List.mem_cons_of_mem _ hl)) p hp
theorem m_rowdict (ns : List Str) (vs : List (Option Lf)) (hl : ns.length = vs.length) (ln : ns.length ≤ 1000) (on : ∀ n ∈ ns, okS n) : d__law_dict [.lst false (ns.map .str), .lst false (vs.map oD)] = .ok (rwD (pzL ns vs)) := by
  rw [m_ldict ns (vs.map oD) (by rw [List.length_map]; exact hl) ln on (fun v hv => by
    obtain ⟨o, _, rfl⟩ := List.mem_map.mp hv
    exact oD_pure o), pz_oD]
  rfl
/-! a property -/
theorem four (a b c d : D) (m : Int) (h0 : 0 ≤ m) (h : m < 4) (P : D → Prop) (pa : P a) (pb : P b) (pc : P c) (pd : P d) : ∃ v, ixD [a, b, c, d] m = some v ∧ P v := by
  have : m = 0 ∨ m = 1 ∨ m = 2 ∨ m = 3 := by omega
  rcases this with rfl | rfl | rfl | rfl
  · exact ⟨a, rfl, pa⟩
  · exact ⟨b, rfl, pb⟩
  · exact ⟨c, rfl, pc⟩
  · exact ⟨d, rfl, pd⟩
def goodD (d : D) : Prop := ∃ o : Option Lf, d = oD o ∧ ∀ l, o = some l → okL l
theorem good_some {l : Lf} (h : okL l) : goodD (lD l) := ⟨some l, rfl, fun l' e => by cases e; exact h⟩
theorem pr_0 (c k : Int) (h : c % 6 = 0) : d__law_property [.int c, .int k] = .ok .non := by
  simp [d__law_property, b__law_property, fnD, h]
theorem pr_1 (c k m : Int) (v : D) (h : c % 6 = 1) (hm : c / 6 % 4 = m) (hv : ixD [lD .none, lD .text, lD (.ref 900), lD .bol] m = some v) (pv : v.pure = true) : d__law_property [.int c, .int k] = .ok v := by
  simp [lD] at hv
  simp [d__law_property, b__law_property, fnD, h, hm, hv, pv]
theorem pr_n0 (c m h6 : Int) (x : Str) (h : c % 6 = h6) (h0 : ¬ h6 = 0) (h1 : ¬ h6 = 1) (hm : c / 6 % 4 = m) (hv : ixD [D.str (Str.ofString "F"), .str (Str.ofString ""), .str (Str.ofString "G"), .str (Str.ofString "Left")] m = some (.str x)) (hx : okS x) : d__law_property [.int c, .int 0] = .ok (lD (.name (cps x))) := by
  have n := m_lname x hx
  simp [d__law_property, b__law_property, fnD, callF, h, h0, h1, hm, hv, n]
theorem pr_n1 (c m h6 : Int) (x : Str) (h : c % 6 = h6) (h0 : ¬ h6 = 0) (h1 : ¬ h6 = 1) (hm : c / 6 % 4 = m) (hv : ixD [D.str (Str.ofString "Left"), .str (Str.ofString "Middle"), .str (Str.ofString "Right"), .str (Str.ofString "left")] m = some (.str x)) (hx : okS x) : d__law_property [.int c, .int 1] = .ok (lD (.name (cps x))) := by
  have n := m_lname x hx
  simp [d__law_property, b__law_property, fnD, callF, h, h0, h1, hm, hv, n]
theorem pr_2 (c k m v : Int) (h : c % 6 = 2) (k0 : ¬ k = 0) (k1 : ¬ k = 1) (hm : c / 6 / 100 % 6 = m) (hv : ixD [D.int (c / 6 % 12), .int (-(c / 6) % 9), .int (c / 6 % 16777216), .int 16777216, .int (-1), .int 70] m = some (.int v)) : d__law_property [.int c, .int k] = .ok (lD (.ref (5 + k))) := by
  simp [d__law_property, b__law_property, fnD, h, k0, k1, hm, hv, lD]
theorem pr_i (c k m v h6 : Int) (h : c % 6 = h6) (h0 : ¬ h6 = 0) (h1 : ¬ h6 = 1) (h2 : ¬ h6 = 2) (k0 : ¬ k = 0) (k1 : ¬ k = 1) (hm : c / 6 / 100 % 6 = m) (hv : ixD [D.int (c / 6 % 12), .int (-(c / 6) % 9), .int (c / 6 % 16777216), .int 16777216, .int (-1), .int 70] m = some (.int v)) : d__law_property [.int c, .int k] = .ok (lD (.int v)) := by
  simp [d__law_property, b__law_property, fnD, h, h0, h1, h2, k0, k1, hm, hv, lD]
theorem m_property (c k : Int) (kr : k = 0 ∨ k = 1 ∨ (2 ≤ k ∧ k ≤ 6)) : ∃ d, d__law_property [.int c, .int k] = .ok d ∧ goodD d := by
  have m4 : 0 ≤ c / 6 % 4 ∧ c / 6 % 4 < 4 := by omega
  by_cases h0 : c % 6 = 0
  · exact ⟨_, pr_0 c k h0, none, rfl, fun l e => by cases e⟩
  · by_cases h1 : c % 6 = 1
    · obtain ⟨v, hv, g⟩ := four (lD .none) (lD .text) (lD (.ref 900)) (lD .bol) (c / 6 % 4) m4.1 m4.2 goodD (good_some trivial) (good_some trivial) (good_some (by show (900 : Int) ≠ 1; omega)) (good_some trivial)
      have pv : v.pure = true := by obtain ⟨o, rfl, _⟩ := g; exact oD_pure o
      exact ⟨v, pr_1 c k _ v h1 rfl hv pv, g⟩
    · rcases kr with rfl | rfl | kr
      · obtain ⟨v, hv, x, rfl, hx⟩ := four (D.str (Str.ofString "F")) (.str (Str.ofString "")) (.str (Str.ofString "G")) (.str (Str.ofString "Left")) (c / 6 % 4) m4.1 m4.2 (fun d => ∃ x, d = .str x ∧ okS x) ⟨_, rfl, by unfold okS; decide +kernel⟩ ⟨_, rfl, by unfold okS; decide +kernel⟩ ⟨_, rfl, by unfold okS; decide +kernel⟩ ⟨_, rfl, by unfold okS; decide +kernel⟩
        exact ⟨_, pr_n0 c _ _ x rfl h0 h1 rfl hv hx, good_some trivial⟩
      · obtain ⟨v, hv, x, rfl, hx⟩ := four (D.str (Str.ofString "Left")) (.str (Str.ofString "Middle")) (.str (Str.ofString "Right")) (.str (Str.ofString "left")) (c / 6 % 4) m4.1 m4.2 (fun d => ∃ x, d = .str x ∧ okS x) ⟨_, rfl, by unfold okS; decide +kernel⟩ ⟨_, rfl, by unfold okS; decide +kernel⟩ ⟨_, rfl, by unfold okS; decide +kernel⟩ ⟨_, rfl, by unfold okS; decide +kernel⟩
        exact ⟨_, pr_n1 c _ _ x rfl h0 h1 rfl hv hx, good_some trivial⟩
      · obtain ⟨v, hv, vb⟩ : ∃ v : Int, ixD [D.int (c / 6 % 12), .int (-(c / 6) % 9), .int (c / 6 % 16777216), .int 16777216, .int (-1), .int 70] (c / 6 / 100 % 6) = some (.int v) ∧ -5000000000 ≤ v ∧ v ≤ 5000000000 := by
          have : c / 6 / 100 % 6 = 0 ∨ c / 6 / 100 % 6 = 1 ∨ c / 6 / 100 % 6 = 2 ∨ c / 6 / 100 % 6 = 3 ∨ c / 6 / 100 % 6 = 4 ∨ c / 6 / 100 % 6 = 5 := by omega
          rcases this with h | h | h | h | h | h <;> rw [h] <;> exact ⟨_, rfl, by omega, by omega⟩
        by_cases h2 : c % 6 = 2
        · exact ⟨_, pr_2 c k _ v h2 (by omega) (by omega) rfl hv, good_some (by show 5 + k ≠ 1; omega)⟩
        · exact ⟨_, pr_i c k _ v _ rfl h0 h1 h2 (by omega) (by omega) rfl hv, good_some vb⟩

end
set_option maxRecDepth 100000
set_option maxHeartbeats 4000000
open PySem PySem.Spec PyProof.Rows L2 Dv
noncomputable section
theorem sq_nx {f g : Dv.Env → SR} {ρ ρ' : Dv.Env} (h : f ρ = .nx ρ') : sq f g ρ = g ρ' := by
  simp [h]
theorem s2_core (x0 x1 x2 x3 x7 x8 x9 : Option D) (c j t kd : Int) (V : List D) (d : D) (ht : d__law_twice [.int c, .int j] = .ok (.int t)) (hk : ixD [D.int 0, .int 2, .int 3, .int 4, .int 1, .int 5, .int 6] j = some (.int kd)) (hp : d__law_property [.int t, .int kd] = .ok d) (hV : V.length < 16777216) :
    lp__law_styles_2 [x0, x1, x2, x3, some (.int c), some (.lst true V), some (.int j), x7, x8, x9] = .nx [x0, x1, x2, x3, some (.int c), some (.lst true (V ++ [d])), some (.int j), x7, x8, x9] := by
  simp [lp__law_styles_2, callF, ht, hk, hp, onL, hV]
theorem seven (j : Nat) (h : j < 7) : ∃ kd : Int, ixD [D.int 0, .int 2, .int 3, .int 4, .int 1, .int 5, .int 6] (j : Int) = some (.int kd) ∧ (kd = 0 ∨ kd = 1 ∨ (2 ≤ kd ∧ kd ≤ 6)) := by
  have : j = 0 ∨ j = 1 ∨ j = 2 ∨ j = 3 ∨ j = 4 ∨ j = 5 ∨ j = 6 := by omega
  rcases this with rfl | rfl | rfl | rfl | rfl | rfl | rfl <;> exact ⟨_, rfl, by omega⟩
theorem s2_loop (x0 x1 x2 x3 x7 x8 x9 : Option D) (c : Int) (x6 : Option D) : ∃ (os : List (Option Lf)) (z6 : Option D), forL (gNm 6) lp__law_styles_2 (rngL 0 7) [x0, x1, x2, x3, some (.int c), some (.lst true []), x6, x7, x8, x9] = .nx [x0, x1, x2, x3, some (.int c), some (.lst true (os.map oD)), z6, x7, x8, x9] ∧ os.length = 7 ∧ ∀ l, some l ∈ os → okL l := by
  obtain ⟨ρ', e, os, z6, rfl, lo, ok⟩ := for_rng (g := gNm 6) (b := lp__law_styles_2) (fun j ρ => ∃ (os : List (Option Lf)) (z6 : Option D), ρ = [x0, x1, x2, x3, some (.int c), some (.lst true (os.map oD)), z6, x7, x8, x9] ∧ os.length = j ∧ ∀ l, some l ∈ os → okL l) 7 [x0, x1, x2, x3, some (.int c), some (.lst true []), x6, x7, x8, x9] (fun j ρ hj I => by
    obtain ⟨os, z6, rfl, lo, ok⟩ := I
    obtain ⟨t, ht, t0⟩ := m_twice c j
    obtain ⟨kd, hk, kr⟩ := seven j hj
    obtain ⟨d, hp, o, rfl, ho⟩ := m_property t kd kr
    refine ⟨_, _, rfl, .inl (s2_core x0 x1 x2 x3 x7 x8 x9 c j t kd (os.map oD) (oD o) ht hk hp (by rw [List.length_map]; omega)), os ++ [o], some (.int (j : Int)), by rw [List.map_append]; rfl, by rw [List.length_append, lo]; rfl, fun l hl => ?_⟩
    rcases List.mem_append.mp hl with hl | hl
    · exact ok l hl
    · exact ho l (List.mem_singleton.mp hl).symm) ⟨[], x6, rfl, rfl, fun l h => by cases h⟩
  exact ⟨os, z6, e, lo, ok⟩
def pc_lp__law_styles_1_1 : Dv.Env → SR := sAsg 4 (eB gAbs (aV (eCall 2 d__law_cell (aV (eVar 0) (aO (e2 gAdd (eC (.int 1)) (eVar 3)) (aNil)))) (aNil)))
def pc_lp__law_styles_1_2 : Dv.Env → SR := sAsg 5 (eLstM (mNil))
def pc_lp__law_styles_1_3 : Dv.Env → SR := sFor (iA rng1 (aV (eC (.int 7)) (aNil))) (gNm 6) lp__law_styles_2
def pc_lp__law_styles_1_4 : Dv.Env → SR := sAsg 7 (asOwn (e2 gIx (eFz (eLst (aO (eC .non) (aO (eCall 1 d__law_name (aV (e2 gIx (eVar 1) (e2 gMod (eCall 2 d__law_twice (aV (eVar 4) (aO (eC (.int 9)) (aNil)))) (eC (.int 4)))) (aNil))) (aO (eCall 1 d__law_name (aO (eC (.str "zz")) (aNil))) (aO (eCall 1 d__law_name (aO (eC (.str "")) (aNil))) (aO (eTup (aO (eC (.str "int")) (aO (eC (.int 1)) (aNil)))) (aNil)))))))) (e2 gMod (eVar 4) (eC (.int 5)))))
def pc_lp__law_styles_1_5 : Dv.Env → SR := sIf (eT (e2 gEq (e2 gMod (e2 gDiv (eVar 4) (eC (.int 5))) (eC (.int 3))) (eC (.int 1)))) (sAsg 7 (eCall 1 d__law_name (aV (e2 gIx (eVar 1) (e2 gMod (e2 gAdd (eVar 3) (eC (.int 1))) (eC (.int 4)))) (aNil)))) (sNil)
def pc_lp__law_styles_1_6 : Dv.Env → SR := sFz 7 (sAsg 8 (eCall 2 d__law_dict (aO (eLst (aO (eC (.str "Font")) (aO (eC (.str "Size")) (aO (eC (.str "Color")) (aO (eC (.str "Back")) (aO (eC (.str "Align")) (aO (eC (.str "Indent")) (aO (eC (.str "Gap")) (aO (eC (.str "Parent")) (aNil)))))))))) (aO (e2 gAdd (eVar 5) (eLst (aV (eVar 7) (aNil)))) (aNil)))))
def pc_lp__law_styles_1_7 : Dv.Env → SR := sIf (eT (e2 gEq (e2 gMod (e2 gDiv (eVar 4) (eC (.int 15))) (eC (.int 9))) (eC (.int 1)))) (sAsg 8 (eTupM (mO (eC (.str "list")) (mO (eTupM (mNil)) (mNil))))) (sNil)
def pc_lp__law_styles_1_8 : Dv.Env → SR := sFz 8 (sApp 2 (eTupM (mV (e2 gIx (eVar 1) (eVar 3)) (mV (eVar 8) (mNil)))))
theorem pc_lp__law_styles_1 : lp__law_styles_1 = sq pc_lp__law_styles_1_1 (sq pc_lp__law_styles_1_2 (sq pc_lp__law_styles_1_3 (sq pc_lp__law_styles_1_4 (sq pc_lp__law_styles_1_5 (sq pc_lp__law_styles_1_6 (sq pc_lp__law_styles_1_7 (pc_lp__law_styles_1_8))))))) := rfl

def abcd : List D := [.str (Str.ofString "a"), .str (Str.ofString "b"), .str (Str.ofString "c"), .str (Str.ofString "d")]
theorem abcd_at (m : Int) (h0 : 0 ≤ m) (h : m < 4) : ∃ x : Str, ixD [D.str (Str.ofString "a"), .str (Str.ofString "b"), .str (Str.ofString "c"), .str (Str.ofString "d")] m = some (.str x) ∧ okS x := by
  obtain ⟨v, hv, x, rfl, hx⟩ := four (D.str (Str.ofString "a")) (.str (Str.ofString "b")) (.str (Str.ofString "c")) (.str (Str.ofString "d")) m h0 h (fun d => ∃ x, d = .str x ∧ okS x) ⟨_, rfl, by unfold okS; decide +kernel⟩ ⟨_, rfl, by unfold okS; decide +kernel⟩ ⟨_, rfl, by unfold okS; decide +kernel⟩ ⟨_, rfl, by unfold okS; decide +kernel⟩
  exact ⟨x, hv, hx⟩
theorem q1 (s : List Int) (k a q : Int) (e1 e2 e4 e5 e6 e7 e8 e9 : Option D) (h : d__law_cell [.scr (dInts s), .int (1 + k)] = .ok (.int a)) (hq : (if a < 0 then -a else a) = q) : pc_lp__law_styles_1_1 [some (.scr (dInts s)), e1, e2, some (.int k), e4, e5, e6, e7, e8, e9] = .nx [some (.scr (dInts s)), e1, e2, some (.int k), some (.int q), e5, e6, e7, e8, e9] := by
  simp [pc_lp__law_styles_1_1, callF, h, hq]
theorem q2 (y0 y1 y2 y3 y4 y5 y6 y7 y8 y9 : Option D) : pc_lp__law_styles_1_2 [y0, y1, y2, y3, y4, y5, y6, y7, y8, y9] = .nx [y0, y1, y2, y3, y4, some (.lst true []), y6, y7, y8, y9] := by
  simp [pc_lp__law_styles_1_2]
theorem q3 (y0 y1 y2 y3 y4 y5 y6 y7 y8 y9 z5 z6 : Option D) (h : forL (gNm 6) lp__law_styles_2 (rngL 0 7) [y0, y1, y2, y3, y4, y5, y6, y7, y8, y9] = .nx [y0, y1, y2, y3, y4, z5, z6, y7, y8, y9]) : pc_lp__law_styles_1_3 [y0, y1, y2, y3, y4, y5, y6, y7, y8, y9] = .nx [y0, y1, y2, y3, y4, z5, z6, y7, y8, y9] := by
  simp [pc_lp__law_styles_1_3, h]
theorem q4 (y0 y2 y3 y5 y6 y7 y8 y9 : Option D) (q t m r : Int) (x : Str) (X Y Z P : D) (ht : d__law_twice [.int q, .int 9] = .ok (.int t)) (hm : t % 4 = m) (hx : ixD [D.str (Str.ofString "a"), .str (Str.ofString "b"), .str (Str.ofString "c"), .str (Str.ofString "d")] m = some (.str x)) (hX : d__law_name [.str x] = .ok X) (hY : d__law_name [.str (Str.ofString "zz")] = .ok Y) (hZ : d__law_name [.str (Str.ofString "")] = .ok Z) (pX : X.pure = true) (pY : Y.pure = true) (pZ : Z.pure = true) (hr : q % 5 = r) (hP : ixD [.non, X, Y, Z, .tup [.str (Str.ofString "int"), .int 1]] r = some P) (pP : P.pure = true) :
    pc_lp__law_styles_1_4 [y0, some (.lst true [.str (Str.ofString "a"), .str (Str.ofString "b"), .str (Str.ofString "c"), .str (Str.ofString "d")]), y2, y3, some (.int q), y5, y6, y7, y8, y9] = .nx [y0, some (.lst true [.str (Str.ofString "a"), .str (Str.ofString "b"), .str (Str.ofString "c"), .str (Str.ofString "d")]), y2, y3, some (.int q), y5, y6, some P, y8, y9] := by
  simp [pc_lp__law_styles_1_4, callF, ht, hm, hx, hX, hY, hZ, pX, pY, pZ, p_cold pX, p_cold pY, p_cold pZ, p_frz pX, p_frz pY, p_frz pZ, hr, hP, pP]
theorem q5 (y0 y2 y5 y6 y8 y9 : Option D) (q k m : Int) (x : Str) (X P : D) (hm : (k + 1) % 4 = m) (hx : ixD [D.str (Str.ofString "a"), .str (Str.ofString "b"), .str (Str.ofString "c"), .str (Str.ofString "d")] m = some (.str x)) (hX : d__law_name [.str x] = .ok X) :
    pc_lp__law_styles_1_5 [y0, some (.lst true [.str (Str.ofString "a"), .str (Str.ofString "b"), .str (Str.ofString "c"), .str (Str.ofString "d")]), y2, some (.int k), some (.int q), y5, y6, some P, y8, y9] = .nx [y0, some (.lst true [.str (Str.ofString "a"), .str (Str.ofString "b"), .str (Str.ofString "c"), .str (Str.ofString "d")]), y2, some (.int k), some (.int q), y5, y6, some (if q / 5 % 3 = 1 then X else P), y8, y9] := by
  by_cases h : q / 5 % 3 = 1
  · simp [pc_lp__law_styles_1_5, callF, hm, hx, hX, h]
  · simp [pc_lp__law_styles_1_5, h]
theorem q6 (y0 y1 y2 y3 y4 y6 y8 y9 : Option D) (V : List D) (P one : D) (pV : D.pureL V = true) (pP : P.pure = true) (lV : V.length ≤ 100) (h : d__law_dict [.lst false [.str (Str.ofString "Font"), .str (Str.ofString "Size"), .str (Str.ofString "Color"), .str (Str.ofString "Back"), .str (Str.ofString "Align"), .str (Str.ofString "Indent"), .str (Str.ofString "Gap"), .str (Str.ofString "Parent")], .lst false (V ++ [P])] = .ok one) (no : one.noFz = true) :
    pc_lp__law_styles_1_6 [y0, y1, y2, y3, y4, some (.lst true V), y6, some P, y8, y9] = .nx [y0, y1, y2, y3, y4, some (.lst true V), y6, some P, some one, y9] := by
  have l : V.length + 1 ≤ 16777216 := by omega
  have pA : D.pureL (V ++ [P]) = true := by
    have : ∀ ys : List D, D.pureL ys = true → D.pureL (ys ++ [P]) = true := by
      intro ys
      induction ys with
      | nil => intro _; simp [pP]
      | cons y ys ih =>
        intro hy
        rw [pureL_cons, Bool.and_eq_true] at hy
        rw [List.cons_append, pureL_cons, hy.1, ih hy.2]; rfl
    exact this V pV
  have fA := D.pureL_frzL _ pA
  have cA := D.pureL_cold _ pA
  simp [pc_lp__law_styles_1_6, callF, frzAt, p_cold pP, p_frz pP, pP, pV, l, fA, cA, pA, h, no]
theorem q7 (y0 y1 y2 y3 y5 y6 y7 y9 : Option D) (q : Int) (one : D) : pc_lp__law_styles_1_7 [y0, y1, y2, y3, some (.int q), y5, y6, y7, some one, y9] = .nx [y0, y1, y2, y3, some (.int q), y5, y6, y7, some (if q / 15 % 9 = 1 then .tup [.str (Str.ofString "list"), .tup []] else one), y9] := by
  by_cases h : q / 15 % 9 = 1
  · simp [pc_lp__law_styles_1_7, h]
  · simp [pc_lp__law_styles_1_7, h]
theorem q8 (y0 y4 y5 y6 y7 y9 : Option D) (k : Int) (x : Str) (R : List D) (one : D) (hx : ixD [D.str (Str.ofString "a"), .str (Str.ofString "b"), .str (Str.ofString "c"), .str (Str.ofString "d")] k = some (.str x)) (po : one.pure = true) (lR : R.length < 16777216) :
    pc_lp__law_styles_1_8 [y0, some (.lst true [.str (Str.ofString "a"), .str (Str.ofString "b"), .str (Str.ofString "c"), .str (Str.ofString "d")]), some (.lst true R), some (.int k), y4, y5, y6, y7, some one, y9] = .nx [y0, some (.lst true [.str (Str.ofString "a"), .str (Str.ofString "b"), .str (Str.ofString "c"), .str (Str.ofString "d")]), some (.lst true (R ++ [.tup [.str x, one]])), some (.int k), y4, y5, y6, y7, some one, y9] := by
  simp [pc_lp__law_styles_1_8, frzAt, p_cold po, p_frz po, po, hx, onL, lR]
theorem lD_noFz (v : Lf) : (lD v).noFz = true := by
  cases v <;> simp [lD]
theorem prs_noFz : ∀ ps : List (List Int × D), (∀ p ∈ ps, p.2.noFz = true) → D.noFzL (ps.map prD) = true
  | [], _ => rfl
  | p :: ps, h => by
    rw [List.map_cons, noFzL_cons, prs_noFz ps fun q hq => h q (List.mem_cons_of_mem _ hq)]
    have := h p List.mem_cons_self
    simp [prD, this]
theorem dc_noFz (ps : List (List Int × D)) (h : ∀ p ∈ ps, p.2.noFz = true) : (dcD ps).noFz = true := by
  have := prs_noFz ps h
  simp [dcD, this]
theorem rw_noFz (ps : Rw) : (rwD ps).noFz = true := dc_noFz _ fun p hp => by
  obtain ⟨q, _, rfl⟩ := List.mem_map.mp hp
  exact lD_noFz q.2
def n8 : List Str := [Str.ofString "Font", Str.ofString "Size", Str.ofString "Color", Str.ofString "Back", Str.ofString "Align", Str.ofString "Indent", Str.ofString "Gap", Str.ofString "Parent"]
theorem n8_ok : ∀ n ∈ n8, okS n := by unfold okS; decide +kernel
theorem oDs_pure (os : List (Option Lf)) : D.pureL (os.map oD) = true := by
  induction os with
  | nil => rfl
  | cons o os ih => rw [List.map_cons, pureL_cons, ih, oD_pure]; rfl
theorem s1_step (s : List Int) (k : Nat) (rows : List Row) (y4 y5 y6 y7 y8 y9 : Option D) (hk : k < 4) (hl : rows.length ≤ 100) : ∃ (r : Row) (z4 z5 z6 z7 z8 : Option D), lp__law_styles_1 [some (.scr (dInts s)), some (.lst true [.str (Str.ofString "a"), .str (Str.ofString "b"), .str (Str.ofString "c"), .str (Str.ofString "d")]), some (.lst true (rows.map rowD)), some (.int (k : Int)), y4, y5, y6, y7, y8, y9] =
    .nx [some (.scr (dInts s)), some (.lst true [.str (Str.ofString "a"), .str (Str.ofString "b"), .str (Str.ofString "c"), .str (Str.ofString "d")]), some (.lst true ((rows ++ [r]).map rowD)), some (.int (k : Int)), z4, z5, z6, z7, z8, y9] ∧ okS r.1 ∧ okRV r.2 := by
  obtain ⟨q, hq⟩ : ∃ q, (if cell s (1 + k) < 0 then -cell s (1 + k) else cell s (1 + k)) = q := ⟨_, rfl⟩
  obtain ⟨os, z6, h3, lo, ok⟩ := s2_loop (some (.scr (dInts s))) (some (.lst true [.str (Str.ofString "a"), .str (Str.ofString "b"), .str (Str.ofString "c"), .str (Str.ofString "d")])) (some (.lst true (rows.map rowD))) (some (.int (k : Int))) y7 y8 y9 q y6
  obtain ⟨t, ht, t0⟩ := m_twice q 9
  obtain ⟨x, hx, ox⟩ := abcd_at (t % 4) (by omega) (by omega)
  obtain ⟨x2, hx2, ox2⟩ := abcd_at (((k : Int) + 1) % 4) (by omega) (by omega)
  obtain ⟨x3, hx3, ox3⟩ := abcd_at (k : Int) (by omega) (by omega)
  have hX := m_lname x ox
  have hX2 := m_lname x2 ox2
  have hY := m_lname (Str.ofString "zz") (by unfold okS; decide +kernel)
  have hZ := m_lname (Str.ofString "") (by unfold okS; decide +kernel)
  obtain ⟨P, hP, gP⟩ : ∃ P, ixD [.non, lD (.name (cps x)), lD (.name (cps (Str.ofString "zz"))), lD (.name (cps (Str.ofString ""))), .tup [.str (Str.ofString "int"), .int 1]] (q % 5) = some P ∧ goodD P := by
    have : q % 5 = 0 ∨ q % 5 = 1 ∨ q % 5 = 2 ∨ q % 5 = 3 ∨ q % 5 = 4 := by omega
    rcases this with h | h | h | h | h <;> rw [h]
    · exact ⟨_, rfl, none, rfl, fun l e => by cases e⟩
    · exact ⟨_, rfl, good_some trivial⟩
    · exact ⟨_, rfl, good_some trivial⟩
    · exact ⟨_, rfl, good_some trivial⟩
    · exact ⟨_, rfl, some (.int 1), rfl, fun l e => by cases e; exact ⟨by omega, by omega⟩⟩
  have gP2 : goodD (if q / 5 % 3 = 1 then lD (.name (cps x2)) else P) := by
    split
    · exact good_some trivial
    · exact gP
  have pP : P.pure = true := by obtain ⟨o, rfl, _⟩ := gP; exact oD_pure o
  obtain ⟨o2, e2, ok2⟩ := gP2
  have hd := m_rowdict n8 (os ++ [o2]) (by rw [List.length_append, lo]; rfl) (by decide) n8_ok
  rw [List.map_append] at hd
  have okp : okR (pzL n8 (os ++ [o2])) := pzL_ok _ _ fun l hl => by
    rcases List.mem_append.mp hl with hl | hl
    · exact ok l hl
    · exact ok2 l (List.mem_singleton.mp hl).symm
  have pone : (rwD (pzL n8 (os ++ [o2]))).pure = true := dcD_pure _ (lPs_pure _)
  obtain ⟨rv, hrv, okrv⟩ : ∃ rv : RV, (if q / 15 % 9 = 1 then D.tup [.str (Str.ofString "list"), .tup []] else rwD (pzL n8 (os ++ [o2]))) = rD rv ∧ okRV rv := by
    split
    · exact ⟨.lst, rfl, trivial⟩
    · exact ⟨.dct _, rfl, okp⟩
  refine ⟨(x3, rv), some (.int q), some (.lst true (os.map oD)), z6, some (oD o2), some (rD rv), ?_, ox3, okrv⟩
  rw [pc_lp__law_styles_1, sq_nx (q1 s k _ q _ _ _ _ _ _ _ _ (by rw [show (1 : Int) + (k : Int) = ((1 + k : Nat) : Int) by omega]; exact m_cell s (1 + k)) hq), sq_nx (q2 _ _ _ _ _ _ _ _ _ _), sq_nx (q3 _ _ _ _ _ _ _ _ _ _ _ _ h3),
    sq_nx (q4 _ _ _ _ _ _ _ _ q t _ _ x _ _ _ P ht rfl hx hX hY hZ (lD_pure _) (lD_pure _) (lD_pure _) rfl hP pP), sq_nx (q5 _ _ _ _ _ _ q k _ x2 _ P rfl hx2 hX2), e2,
    sq_nx (q6 _ _ _ _ _ _ _ _ (os.map oD) (oD o2) _ (oDs_pure os) (oD_pure o2) (by rw [List.length_map]; omega) hd (rw_noFz _)), sq_nx (q7 _ _ _ _ _ _ _ _ q _), hrv,
    q8 _ _ _ _ _ _ k x3 (rows.map rowD) (rD rv) hx3 (rD_pure rv) (by rw [List.length_map]; omega), List.map_append]
  rfl

end
set_option maxRecDepth 100000
set_option maxHeartbeats 4000000
open PySem PySem.Spec PyProof.Rows L2 Dv
noncomputable section
theorem chn (k : Nat) (h : k < 13) : ∃ y x : Str, gStr [.int (k : Int)] = some (.str y) ∧ gAdd (.str (Str.ofString "chain")) (.str y) = some (.str x) ∧ okS x := by
  have : k = 0 ∨ k = 1 ∨ k = 2 ∨ k = 3 ∨ k = 4 ∨ k = 5 ∨ k = 6 ∨ k = 7 ∨ k = 8 ∨ k = 9 ∨ k = 10 ∨ k = 11 ∨ k = 12 := by omega
  rcases this with rfl | rfl | rfl | rfl | rfl | rfl | rfl | rfl | rfl | rfl | rfl | rfl | rfl <;> exact ⟨_, _, rfl, rfl, by unfold okS; decide +kernel⟩
theorem s3_core (s : List Int) (y1 y4 y5 y6 y7 y8 y9 : Option D) (k k1 c q : Int) (R : List D) (a b x x1 : Str) (X V one : D) (hc : d__law_cell [.scr (dInts s), .int 5] = .ok (.int c)) (hq : (if c < 0 then -c else c) % 11 = q) (hk1 : k + 1 = k1) (ha : gStr [.int k] = some (.str a)) (hx : gAdd (.str (Str.ofString "chain")) (.str a) = some (.str x)) (hb : gStr [.int k1] = some (.str b)) (hx1 : gAdd (.str (Str.ofString "chain")) (.str b) = some (.str x1))
    (hX : d__law_name [.str x1] = .ok X) (pX : X.pure = true) (hV : (if k = q then D.tup [.str (Str.ofString "int"), .int 3] else .non) = V) (pV : V.pure = true) (hd : d__law_dict [.lst false [.str (Str.ofString "Parent"), .str (Str.ofString "Size")], .lst false [X, V]] = .ok one) (no : one.noFz = true) (lR : R.length < 16777216) :
    ∃ z9, lp__law_styles_3 [some (.scr (dInts s)), y1, some (.lst true R), some (.int k), y4, y5, y6, y7, y8, y9] = .nx [some (.scr (dInts s)), y1, some (.lst true (R ++ [.tup [.str x, one]])), some (.int k), y4, y5, y6, y7, y8, z9] := by
  have cV := p_cold pV
  have fV := p_frz pV
  by_cases e : k = q
  · rw [if_pos e] at hV
    subst hV
    subst e
    refine ⟨some (.tup [.str (Str.ofString "int"), .int 3]), ?_⟩
    simp [lp__law_styles_3, callF, hc, hq, hk1, ha, hx, hb, hx1, hX, pX, p_cold pX, p_frz pX, hd, no, frzAt, onL, lR, -gStr_int, -gAdd_str]
  · rw [if_neg e] at hV
    subst hV
    refine ⟨some .non, ?_⟩
    simp [lp__law_styles_3, callF, hc, hq, hk1, ha, hx, hb, hx1, hX, pX, p_cold pX, p_frz pX, hd, no, frzAt, onL, lR, e, -gStr_int, -gAdd_str]
theorem s3_step (s : List Int) (k : Nat) (rows : List Row) (y1 y4 y5 y6 y7 y8 y9 : Option D) (hk : k < 12) (hl : rows.length ≤ 100) : ∃ (r : Row) (z9 : Option D), lp__law_styles_3 [some (.scr (dInts s)), y1, some (.lst true (rows.map rowD)), some (.int (k : Int)), y4, y5, y6, y7, y8, y9] =
    .nx [some (.scr (dInts s)), y1, some (.lst true ((rows ++ [r]).map rowD)), some (.int (k : Int)), y4, y5, y6, y7, y8, z9] ∧ okS r.1 ∧ okRV r.2 := by
  obtain ⟨a, x, ha, hx, ox⟩ := chn k (by omega)
  obtain ⟨b, x1, hb, hx1, ox1⟩ := chn (k + 1) (by omega)
  have hX := m_lname x1 ox1
  obtain ⟨o, ho, oko⟩ : ∃ o : Option Lf, (if (k : Int) = (if cell s 5 < 0 then -cell s 5 else cell s 5) % 11 then D.tup [.str (Str.ofString "int"), .int 3] else .non) = oD o ∧ ∀ l, o = some l → okL l := by
    by_cases e : (k : Int) = (if cell s 5 < 0 then -cell s 5 else cell s 5) % 11
    · rw [if_pos e]; exact ⟨some (.int 3), rfl, fun l e => by cases e; exact ⟨by omega, by omega⟩⟩
    · rw [if_neg e]; exact ⟨none, rfl, fun l e => by cases e⟩
  have hd := m_rowdict [Str.ofString "Parent", Str.ofString "Size"] [some (.name (cps x1)), o] rfl (by decide) (by unfold okS; decide +kernel)
  obtain ⟨z9, h⟩ := s3_core s y1 y4 y5 y6 y7 y8 y9 k ((k + 1 : Nat) : Int) _ _ (rows.map rowD) a b x x1 _ _ _ (m_cell s 5) rfl (by omega) ha hx hb hx1 hX (lD_pure _) ho (oD_pure o) hd (rw_noFz _) (by rw [List.length_map]; omega)
  refine ⟨(x, .dct (pzL [Str.ofString "Parent", Str.ofString "Size"] [some (.name (cps x1)), o])), z9, ?_, ox, pzL_ok _ _ fun l hl => ?_⟩
  · rw [h, List.map_append]; rfl
  · rcases List.mem_cons.mp hl with e | hl
    · cases e; trivial
    · exact oko l (List.mem_singleton.mp hl).symm
def pc_b__law_styles_1 : Dv.Env → SR := sAsg 1 (eLstM (mO (eC (.str "a")) (mO (eC (.str "b")) (mO (eC (.str "c")) (mO (eC (.str "d")) (mNil))))))
def pc_b__law_styles_2 : Dv.Env → SR := sAsg 2 (eLstM (mNil))
def pc_b__law_styles_3 : Dv.Env → SR := sFor (iA rng1 (aV (eC (.int 4)) (aNil))) (gNm 3) lp__law_styles_1
def pc_b__law_styles_4 : Dv.Env → SR := sFor (iA rng1 (aV (eC (.int 10)) (aNil))) (gNm 3) lp__law_styles_3
def pc_b__law_styles_5 : Dv.Env → SR := sRet (eVar 2)
theorem pc_b__law_styles : b__law_styles = sq pc_b__law_styles_1 (sq pc_b__law_styles_2 (sq pc_b__law_styles_3 (sq pc_b__law_styles_4 (pc_b__law_styles_5)))) := rfl

theorem st_end (s : List Int) (R1 R2 : List D) (z3 z4 z5 z6 z7 z8 z3' z4' z5' z6' z7' z8' z9' : Option D) (h1 : forL (gNm 3) lp__law_styles_1 (rngL 0 4) [some (.scr (dInts s)), some (.lst true [.str (Str.ofString "a"), .str (Str.ofString "b"), .str (Str.ofString "c"), .str (Str.ofString "d")]), some (.lst true []), none, none, none, none, none, none, none] = .nx [some (.scr (dInts s)), some (.lst true [.str (Str.ofString "a"), .str (Str.ofString "b"), .str (Str.ofString "c"), .str (Str.ofString "d")]), some (.lst true R1), z3, z4, z5, z6, z7, z8, none])
    (h2 : forL (gNm 3) lp__law_styles_3 (rngL 0 10) [some (.scr (dInts s)), some (.lst true [.str (Str.ofString "a"), .str (Str.ofString "b"), .str (Str.ofString "c"), .str (Str.ofString "d")]), some (.lst true R1), z3, z4, z5, z6, z7, z8, none] = .nx [some (.scr (dInts s)), some (.lst true [.str (Str.ofString "a"), .str (Str.ofString "b"), .str (Str.ofString "c"), .str (Str.ofString "d")]), some (.lst true R2), z3', z4', z5', z6', z7', z8', z9']) :
    d__law_styles [.scr (dInts s)] = .ok (.lst true R2) := by
  simp [d__law_styles, b__law_styles, fnD, h1, h2]
theorem m_styles (s : List Int) : ∃ rows : List Row, d__law_styles [.scr (dInts s)] = .ok (.lst true (rows.map rowD)) ∧ okRows rows ∧ okNm rows := by
  obtain ⟨ρ1, e1, R1, z3, z4, z5, z6, z7, z8, rfl, l1, a1, b1⟩ := for_rng (g := gNm 3) (b := lp__law_styles_1) (fun j ρ => ∃ (rows : List Row) (z3 z4 z5 z6 z7 z8 : Option D), ρ = [some (.scr (dInts s)), some (.lst true [.str (Str.ofString "a"), .str (Str.ofString "b"), .str (Str.ofString "c"), .str (Str.ofString "d")]), some (.lst true (rows.map rowD)), z3, z4, z5, z6, z7, z8, none] ∧ rows.length = j ∧ (∀ r ∈ rows, okS r.1) ∧ ∀ r ∈ rows, okRV r.2) 4
    [some (.scr (dInts s)), some (.lst true [.str (Str.ofString "a"), .str (Str.ofString "b"), .str (Str.ofString "c"), .str (Str.ofString "d")]), some (.lst true []), none, none, none, none, none, none, none] (fun j ρ hj I => by
    obtain ⟨rows, z3, z4, z5, z6, z7, z8, rfl, l, a, b⟩ := I
    obtain ⟨r, w4, w5, w6, w7, w8, h, o1, o2⟩ := s1_step s j rows z4 z5 z6 z7 z8 none hj (by omega)
    refine ⟨_, _, rfl, .inl h, rows ++ [r], some (.int (j : Int)), w4, w5, w6, w7, w8, rfl, by rw [List.length_append, l]; rfl, fun q hq => ?_, fun q hq => ?_⟩
    · rcases List.mem_append.mp hq with hq | hq
      · exact a q hq
      · rw [List.mem_singleton.mp hq]; exact o1
    · rcases List.mem_append.mp hq with hq | hq
      · exact b q hq
      · rw [List.mem_singleton.mp hq]; exact o2) ⟨[], none, none, none, none, none, none, rfl, rfl, by simp, by simp⟩
  obtain ⟨ρ2, e2, R2, y3, y9, rfl, l2, a2, b2⟩ := for_rng (g := gNm 3) (b := lp__law_styles_3) (fun j ρ => ∃ (rows : List Row) (y3 y9 : Option D), ρ = [some (.scr (dInts s)), some (.lst true [.str (Str.ofString "a"), .str (Str.ofString "b"), .str (Str.ofString "c"), .str (Str.ofString "d")]), some (.lst true (rows.map rowD)), y3, z4, z5, z6, z7, z8, y9] ∧ rows.length = 4 + j ∧ (∀ r ∈ rows, okS r.1) ∧ ∀ r ∈ rows, okRV r.2) 10
    [some (.scr (dInts s)), some (.lst true [.str (Str.ofString "a"), .str (Str.ofString "b"), .str (Str.ofString "c"), .str (Str.ofString "d")]), some (.lst true (R1.map rowD)), z3, z4, z5, z6, z7, z8, none] (fun j ρ hj I => by
    obtain ⟨rows, y3, y9, rfl, l, a, b⟩ := I
    obtain ⟨r, w9, h, o1, o2⟩ := s3_step s j rows (some (.lst true [.str (Str.ofString "a"), .str (Str.ofString "b"), .str (Str.ofString "c"), .str (Str.ofString "d")])) z4 z5 z6 z7 z8 y9 (by omega) (by omega)
    refine ⟨_, _, rfl, .inl h, rows ++ [r], some (.int (j : Int)), w9, rfl, by rw [List.length_append, l]; rfl, fun q hq => ?_, fun q hq => ?_⟩
    · rcases List.mem_append.mp hq with hq | hq
      · exact a q hq
      · rw [List.mem_singleton.mp hq]; exact o1
    · rcases List.mem_append.mp hq with hq | hq
      · exact b q hq
      · rw [List.mem_singleton.mp hq]; exact o2) ⟨R1, z3, none, rfl, by omega, a1, b1⟩
  exact ⟨R2, st_end s _ _ z3 z4 z5 z6 z7 z8 _ _ _ _ _ _ _ e1 e2, b2, a2, by omega⟩
/-! the book -/
def fstD : D → D
  | .tup (x :: _) => x
  | d => d
def sndD : D → D
  | .tup [_, y] => y
  | d => d
theorem bn_lc (x0 x1 x2 x3 : Option D) (rows : List Row) (hl : rows.length ≤ 1000) : lcL (gNm 4) tYes (asOwn (e2 gIx (eVar 4) (eC (.int 0)))) [x0, x1, x2, x3, none] (rows.map rowD) [] = .ok (.lst true ((rows.map (·.1)).map .str)) := by
  rw [lcL_map fstD _ (fun d hd => by
    obtain ⟨r, _, rfl⟩ := List.mem_map.mp hd
    refine ⟨[x0, x1, x2, x3, some (rowD r)], rfl, rfl, ?_⟩
    simp [rowD, ix0, fstD]) (by rw [List.length_map]; omega), List.map_map, List.map_map]
  rfl
theorem bv_lc (x0 x1 x2 x3 : Option D) (rows : List Row) (hl : rows.length ≤ 1000) : lcL (gNm 4) tYes (asOwn (e2 gIx (eVar 4) (eC (.int 1)))) [x0, x1, x2, x3, none] (rows.map rowD) [] = .ok (.lst true (rows.map fun r => rD r.2)) := by
  rw [lcL_map sndD _ (fun d hd => by
    obtain ⟨r, _, rfl⟩ := List.mem_map.mp hd
    have p := rD_pure r.2
    refine ⟨[x0, x1, x2, x3, some (rowD r)], rfl, rfl, ?_⟩
    simp [rowD, ix1, sndD, p]) (by rw [List.length_map]; omega), List.map_map]
  rfl
theorem pz_rows : ∀ rows : List Row, pz (rows.map (·.1)) (rows.map fun r => rD r.2) = rows.map fun r => (cps r.1, rD r.2)
  | [] => rfl
  | r :: rows => by
    have : Dv.isNon (rD r.2) = false := by cases r.2 <;> rfl
    rw [List.map_cons, List.map_cons, pz, pz_rows rows, this, if_neg Bool.false_ne_true]; rfl
theorem bk_core (x0 x1 x4 : Option D) (A : List D) (k v : Int) (hv : 3 * k - 7 = v) (hA : A.length < 16777216) : lp__law_book_1 [x0, x1, some (.lst true A), some (.int k), x4] = .nx [x0, x1, some (.lst true (A ++ [.tup [.int (5 + k), .tup [.str (Str.ofString "int"), .int v]]])), some (.int k), x4] := by
  simp [lp__law_book_1, hv, onL, hA]
theorem bk_loop (x0 x1 x4 x3 : Option D) (A : D) : forL (gNm 3) lp__law_book_1 (rngL 2 5) [x0, x1, some (.lst true [A]), x3, x4] = .nx [x0, x1, some (.lst true (A :: ((List.range 5).map fun k : Nat => (7 + (k : Int), D.tup [.str (Str.ofString "int"), .int (3 * (2 + (k : Int)) - 7)])).map obD)), some (.int 6), x4] := by
  exact forL_nx rfl (bk_core x0 x1 x4 [A] 2 _ rfl (by simp)) (forL_nx rfl (bk_core x0 x1 x4 _ 3 _ rfl (by simp)) (forL_nx rfl (bk_core x0 x1 x4 _ 4 _ rfl (by simp)) (forL_nx rfl (bk_core x0 x1 x4 _ 5 _ rfl (by simp)) (forL_nx rfl (bk_core x0 x1 x4 _ 6 _ rfl (by simp)) rfl))))
theorem book_core (RS N V : List D) (S R : D) (O : List D) (pR : D.pureL RS = true) (pN : D.pureL N = true) (pV : D.pureL V = true) (h1 : lcL (gNm 4) tYes (asOwn (e2 gIx (eVar 4) (eC (.int 0)))) [some (.lst false RS), none, none, none, none] RS [] = .ok (.lst true N)) (h2 : lcL (gNm 4) tYes (asOwn (e2 gIx (eVar 4) (eC (.int 1)))) [some (.lst false RS), none, none, none, none] RS [] = .ok (.lst true V))
    (h3 : d__law_dict [.lst false N, .lst false V] = .ok S) (nS : S.noFz = true) (pS : S.pure = true) (h4 : d__law_dict [.lst false [.str (Str.ofString "Styles"), .str (Str.ofString "Pages")], .lst false [S, .tup [.str (Str.ofString "list"), .tup []]]] = .ok R) (nR : R.noFz = true)
    (h5 : forL (gNm 3) lp__law_book_1 (rngL 2 5) [some (.lst false RS), some S, some (.lst true [.tup [.int 1, R]]), none, none] = .nx [some (.lst false RS), some S, some (.lst true O), some (.int 6), none]) (pO : D.pureL O = true) : d__law_book [.lst false RS] = .ok (.tup [.tup O, .int 1]) := by
  have fN := D.pureL_frzL N pN
  have cN := D.pureL_cold N pN
  have fV := D.pureL_frzL V pV
  have cV := D.pureL_cold V pV
  simp [d__law_book, b__law_book, fnD, callF, pR, h1, h2, fN, cN, pN, fV, cV, pV, h3, nS, frzAt, p_cold pS, p_frz pS, pS, h4, nR, h5, pO]
theorem strs_pure : ∀ ns : List Str, D.pureL (ns.map D.str) = true
  | [] => rfl
  | n :: ns => by rw [List.map_cons, pureL_cons, strs_pure ns]; rfl
theorem vals_pure (rows : List Row) : D.pureL (rows.map fun r => rD r.2) = true := by
  induction rows with
  | nil => rfl
  | cons r rows ih => rw [List.map_cons, pureL_cons, ih, rD_pure]; rfl
theorem rD_noFz (v : RV) : (rD v).noFz = true := by
  cases v with
  | dct ps => exact rw_noFz ps
  | lst => rfl
theorem sty_noFz (rows : List Row) : (stylesD rows).noFz = true := dc_noFz _ fun p hp => by
  obtain ⟨q, _, rfl⟩ := List.mem_map.mp hp
  exact rD_noFz q.2
theorem m_book (rows : List Row) (okn : okNm rows) : d__law_book [.lst false (rows.map rowD)] = .ok (bookD rows) := by
  have h3 := m_ldict (rows.map (·.1)) (rows.map fun r => rD r.2) (by simp) (by rw [List.length_map]; exact okn.2) (fun n hn => by obtain ⟨r, hr, rfl⟩ := List.mem_map.mp hn; exact okn.1 r hr) (fun v hv => by obtain ⟨r, _, rfl⟩ := List.mem_map.mp hv; exact rD_pure r.2)
  rw [pz_rows] at h3
  have h4 := m_ldict [Str.ofString "Styles", Str.ofString "Pages"] [stylesD rows, lD .lst] rfl (by decide) (by unfold okS; decide +kernel) (fun v hv => by
    rcases List.mem_cons.mp hv with rfl | hv
    · exact stylesD_pure rows
    · rw [List.mem_singleton.mp hv]; rfl)
  have e4 : pz [Str.ofString "Styles", Str.ofString "Pages"] [stylesD rows, lD .lst] = [(cps (Str.ofString "Styles"), stylesD rows), (cps (Str.ofString "Pages"), lD .lst)] := rfl
  rw [e4] at h4
  have nR : (rootD rows).noFz = true := dc_noFz _ fun p hp => by
    rcases List.mem_cons.mp hp with rfl | hp
    · exact sty_noFz rows
    · rw [List.mem_singleton.mp hp]; rfl
  exact book_core (rows.map rowD) _ _ _ (rootD rows) _ (rowDs_pure rows) (strs_pure _) (vals_pure rows) (bn_lc _ _ _ _ rows okn.2) (bv_lc _ _ _ _ rows okn.2) h3 (sty_noFz rows) (stylesD_pure rows) h4 nR (bk_loop _ _ _ _ _) (obs_pure _ (objs_pure rows))

end
set_option maxRecDepth 100000
set_option maxHeartbeats 4000000
open PySem PySem.Spec PyProof.Rows L2 Dv
noncomputable section
theorem ne7 (f : D) (a b c d e : Int) (w : Str) (hw : PyData.strOk w = true) (hf : f = .non ∨ ∃ cs, f = .tup (dInts cs)) : gNe (.tup [f, .int a, .int b, .int c, .str w, .int d, .int e]) (.tup [f, .int a, .int b, .int c, .str w, .int d, .int e]) = some (.bl false) := by
  have hl : D.lay 60 (.tup [f, .int a, .int b, .int c, .str w, .int d, .int e]) = true := by
    rcases hf with rfl | ⟨cs, rfl⟩ <;> simp [hw]
  have he : PyData.eqv (D.toP f) (D.toP f) = true := by
    rcases hf with rfl | ⟨cs, rfl⟩
    · rfl
    · show PyData.eqv (.tuple (D.toPL (dInts cs))) (.tuple (D.toPL (dInts cs))) = true
      rw [PyData.eqv, dInts_eqvAll]; simp
  simp only [gNe, hl, and_self, if_true]
  show some (D.bl (!(PyData.eqv (D.toP f) (D.toP f) && ((a == a) && ((b == b) && ((c == c) && ((w == w) && ((d == d) && ((e == e) && true))))))))) = _
  rw [he]; simp
theorem alignF_ok (ds : List Rw) : PyData.strOk (alignF ds) = true := by
  unfold alignF
  have l : PyData.strOk (Str.ofString "Left") = true := by decide +kernel
  have m : PyData.strOk (Str.ofString "Middle") = true := by decide +kernel
  have r : PyData.strOk (Str.ofString "Right") = true := by decide +kernel
  cases (fst ds (cps (Str.ofString "Align")) (isN inL3)).bind nvO with
  | none => exact l
  | some cs =>
    show PyData.strOk (wordF cs) = true
    unfold wordF
    split
    · exact l
    · split
      · exact m
      · exact r
theorem sty_form (ds : List Rw) : ∃ a b c d e : Int, styD ds = .tup [fontD ds, .int a, .int b, .int c, .str (alignF ds), .int d, .int e] := by
  unfold styD
  obtain ⟨a, ha⟩ := bdF_int ds (cps (Str.ofString "Size")) 1 8 4
  obtain ⟨d, hd⟩ := bdF_int ds (cps (Str.ofString "Indent")) 0 64 0
  obtain ⟨e, he⟩ := bdF_int ds (cps (Str.ofString "Gap")) 0 64 0
  rw [ha, hd, he]
  exact ⟨a, _, _, d, e, rfl⟩
theorem lw1_core (s : Option D) (B : D) (RS : List D) (nm : Str) (cs : List Int) (y4 y5 y6 y7 y8 y9 : Option D) (L : List D) (pB : B.pure = true) (pR : D.pureL RS = true) (hc : d__law_codes [.str nm] = .ok (.tup (dInts cs))) (h1 : d_style_of [B, .tup (dInts cs)] = .ok (.tup L)) (h2 : d__law_due [B, .lst false RS, .tup (dInts cs)] = .ok (.tup L)) (nL : D.noFzL L = true) (pL : D.pureL L = true) (hn : gNe (.tup L) (.tup L) = some (.bl false)) :
    lp_law_1 [s, some (.lst true RS), some B, some (.str nm), y4, y5, y6, y7, y8, y9] = .nx [s, some (.lst true RS), some B, some (.str nm), y4, y5, y6, y7, y8, some (.tup L)] := by
  have fR := D.pureL_frzL RS pR
  have cR := D.pureL_cold RS pR
  simp [lp_law_1, callF, pB, p_cold pB, p_frz pB, pR, fR, cR, hc, h1, h2, nL, hn]
theorem lw1_step (s : Option D) (rows : List Row) (ok : okRows rows) (okn : okNm rows) (nm : Str) (hn : okS nm) (y4 y5 y6 y7 y8 y9 : Option D) : ∃ z9, lp_law_1 [s, some (.lst true (rows.map rowD)), some (bookD rows), some (.str nm), y4, y5, y6, y7, y8, y9] = .nx [s, some (.lst true (rows.map rowD)), some (bookD rows), some (.str nm), y4, y5, y6, y7, y8, z9] := by
  have h1 := m_style_of rows ok (cps nm)
  have h2 := m_due rows ok okn (cps nm)
  generalize chF rows 8 (cps nm) [] = ds at *
  obtain ⟨a, b, c, d, e, hf⟩ := sty_form ds
  have fc := fontD_cases ds
  have n7 := ne7 (fontD ds) a b c d e (alignF ds) (alignF_ok ds) fc
  rw [hf] at h1 h2
  refine ⟨_, lw1_core s (bookD rows) (rows.map rowD) nm (cps nm) y4 y5 y6 y7 y8 y9 _ (bookD_pure rows) (rowDs_pure rows) (m_lcodes nm hn) h1 h2 ?_ ?_ n7⟩
  · rcases fc with e | ⟨cs, e⟩ <;> rw [e] <;> simp
  · rcases fc with e | ⟨cs, e⟩ <;> rw [e] <;> simp
theorem lw1_loop (s : Option D) (rows : List Row) (ok : okRows rows) (okn : okNm rows) (y4 y5 y6 y7 y8 : Option D) : ∀ (ns : List Str) (y3 y9 : Option D), (∀ n ∈ ns, okS n) → ∃ z3 z9, forL (gNm 3) lp_law_1 (ns.map .str) [s, some (.lst true (rows.map rowD)), some (bookD rows), y3, y4, y5, y6, y7, y8, y9] = .nx [s, some (.lst true (rows.map rowD)), some (bookD rows), z3, y4, y5, y6, y7, y8, z9]
  | [], y3, y9, _ => ⟨y3, y9, rfl⟩
  | n :: ns, y3, y9, h => by
    obtain ⟨z9, h1⟩ := lw1_step s rows ok okn n (h n List.mem_cons_self) y4 y5 y6 y7 y8 y9
    obtain ⟨a3, a9, h2⟩ := lw1_loop s rows ok okn y4 y5 y6 y7 y8 ns (some (.str n)) z9 fun q hq => h q (List.mem_cons_of_mem _ hq)
    exact ⟨a3, a9, forL_nx rfl h1 h2⟩
theorem no_other (t : Str) (r : List D) (lo hi o : Int) (h : (t == Str.ofString "int") = false) : d_number_of [.tup (.str t :: r), .int lo, .int hi, .int o] = .ok (.int o) := by
  have n : gNe (.str t) (.str (Str.ofString "int")) = some (.bl true) := by
    show some (D.bl (!(t == Str.ofString "int"))) = _
    rw [h]; rfl
  simp [d_number_of, b_number_of, fnD, ix0, n]
theorem co_other (t : Str) (r : List D) (o : Int) (h : (t == Str.ofString "int") = false) : d_colour_of [.tup (.str t :: r), .int o] = .ok (.int o) := by
  have n : gNe (.str t) (.str (Str.ofString "int")) = some (.bl true) := by
    show some (D.bl (!(t == Str.ofString "int"))) = _
    rw [h]; rfl
  simp [d_colour_of, b_colour_of, fnD, ix0, n]
theorem co_int (v o : Int) : d_colour_of [.tup [.str (Str.ofString "int"), .int v], .int o] = .ok (.int (if 0 ≤ v ∧ v ≤ 16777215 then v else o)) := by
  by_cases a : v < 0
  · rw [if_neg (by omega)]; simp [d_colour_of, b_colour_of, fnD, c_WHITEST, ix0, ix1, a]
  · by_cases b : 16777215 < v
    · rw [if_neg (by omega)]; simp [d_colour_of, b_colour_of, fnD, c_WHITEST, ix0, ix1, a, b]
    · rw [if_pos (by omega)]; simp [d_colour_of, b_colour_of, fnD, c_WHITEST, ix0, ix1, a, b]
theorem lw2_core (y0 y1 y2 y3 y4 y7 y9 : Option D) (lo hi : Int) (t : Str) (r : List D) (p : D.pureL r = true) (h : (t == Str.ofString "int") = false) : lp_law_2 [y0, y1, y2, y3, y4, some (.int lo), some (.int hi), y7, some (.tup (.str t :: r)), y9] = .nx [y0, y1, y2, y3, y4, some (.int lo), some (.int hi), y7, some (.tup (.str t :: r)), y9] := by
  have h1 := no_other t r lo hi 77 h
  have h2 := co_other t r 78 h
  simp [lp_law_2, callF, p, h1, h2]
def pc_b_law_1 : Dv.Env → SR := sAsg 1 (eCall 1 d__law_styles (aV (eVar 0) (aNil)))
def pc_b_law_2 : Dv.Env → SR := sAsg 2 (eCall 1 d__law_book (aV (eVar 1) (aNil)))
def pc_b_law_3 : Dv.Env → SR := sFor (iO (eLst (aO (eC (.str "a")) (aO (eC (.str "b")) (aO (eC (.str "c")) (aO (eC (.str "d")) (aO (eC (.str "chain0")) (aO (e2 gAdd (eC (.str "chain")) (eB gStr (aV (e2 gMod (eB gAbs (aV (eCall 2 d__law_cell (aV (eVar 0) (aO (eC (.int 6)) (aNil)))) (aNil))) (eC (.int 12))) (aNil)))) (aO (eC (.str "")) (aO (eC (.str "zz")) (aNil))))))))))) (gNm 3) lp_law_1
def pc_b_law_4 : Dv.Env → SR := sAsg 4 (e2 gSub (e2 gMod (eB gInt (aV (eCall 2 d__law_cell (aV (eVar 0) (aO (eC (.int 7)) (aNil)))) (aNil))) (eC (.int 4294967295))) (eC (.int 2147483647)))
def pc_b_law_5 : Dv.Env → SR := sAsg 5 (e2 gSub (e2 gMod (eB gAbs (aV (eCall 2 d__law_cell (aV (eVar 0) (aO (eC (.int 8)) (aNil)))) (aNil))) (eC (.int 100))) (eC (.int 50)))
def pc_b_law_6 : Dv.Env → SR := sAsg 6 (e2 gAdd (eVar 5) (e2 gMod (eB gAbs (aV (eCall 2 d__law_cell (aV (eVar 0) (aO (eC (.int 9)) (aNil)))) (aNil))) (eC (.int 100))))
def pc_b_law_7 : Dv.Env → SR := sIf (eT (e2 gNe (eCall 4 d_number_of (aO (eTup (aO (eC (.str "int")) (aV (eVar 4) (aNil)))) (aV (eVar 5) (aV (eVar 6) (aO (eC (.int 1000)) (aNil)))))) (eB gMax2 (aV (eVar 5) (aV (eB gMin2 (aV (eVar 6) (aV (eVar 4) (aNil)))) (aNil)))))) (sRet (eC (.bl false))) (sNil)
def pc_b_law_8 : Dv.Env → SR := sAsg 7 (e1 gNeg (eC (.int 1)))
def pc_b_law_9 : Dv.Env → SR := sIf (eT (e3 gLe gLe (eC (.int 0)) (eVar 4) (eC (.int 16777215)))) (sAsg 7 (asOwn (eVar 4))) (sNil)
def pc_b_law_10 : Dv.Env → SR := sIf (tOrF (eT (e2 gNe (eCall 2 d_colour_of (aO (eTup (aO (eC (.str "int")) (aV (eVar 4) (aNil)))) (aO (e1 gNeg (eC (.int 1))) (aNil)))) (eVar 7))) (eT (e2 gNe (eCall 2 d_colour_of (aO (eTup (aO (eC (.str "int")) (aO (eC (.int 16777215)) (aNil)))) (aO (e1 gNeg (eC (.int 1))) (aNil)))) (eC (.int 16777215))))) (sRet (eC (.bl false))) (sNil)
def pc_b_law_11 : Dv.Env → SR := sFor (iO (eLst (aO (eTup (aO (eC (.str "none")) (aNil))) (aO (eTup (aO (eC (.str "bool")) (aO (eC (.int 1)) (aNil)))) (aO (eTup (aO (eC (.str "name")) (aO (eTup (aO (eC (.int 49)) (aNil))) (aNil)))) (aO (eTup (aO (eC (.str "text")) (aO (eTup (aNil)) (aNil)))) (aNil))))))) (gNm 8) lp_law_2
def pc_b_law_12 : Dv.Env → SR := sRet (eC (.bl true))
theorem pc_b_law : b_law = sq pc_b_law_1 (sq pc_b_law_2 (sq pc_b_law_3 (sq pc_b_law_4 (sq pc_b_law_5 (sq pc_b_law_6 (sq pc_b_law_7 (sq pc_b_law_8 (sq pc_b_law_9 (sq pc_b_law_10 (sq pc_b_law_11 (pc_b_law_12))))))))))) := rfl

theorem law_core (s : List Int) (RS : List D) (B : D) (c6 c7 c8 c9 q v lo lo1 hi hi1 : Int) (y x : Str) (z3 z9 : Option D) (pR : D.pureL RS = true) (h1 : d__law_styles [.scr (dInts s)] = .ok (.lst true RS)) (h2 : d__law_book [.lst false RS] = .ok B) (nB : B.noFz = true) (h6 : d__law_cell [.scr (dInts s), .int 6] = .ok (.int c6)) (h7 : d__law_cell [.scr (dInts s), .int 7] = .ok (.int c7)) (h8 : d__law_cell [.scr (dInts s), .int 8] = .ok (.int c8)) (h9 : d__law_cell [.scr (dInts s), .int 9] = .ok (.int c9))
    (hq : (if c6 < 0 then -c6 else c6) % 12 = q) (ha : gStr [.int q] = some (.str y)) (hx : gAdd (.str (Str.ofString "chain")) (.str y) = some (.str x))
    (hl : forL (gNm 3) lp_law_1 [.str (Str.ofString "a"), .str (Str.ofString "b"), .str (Str.ofString "c"), .str (Str.ofString "d"), .str (Str.ofString "chain0"), .str x, .str (Str.ofString ""), .str (Str.ofString "zz")] [some (.scr (dInts s)), some (.lst true RS), some B, none, none, none, none, none, none, none] = .nx [some (.scr (dInts s)), some (.lst true RS), some B, z3, none, none, none, none, none, z9])
    (hv : c7 % 4294967295 - 2147483647 = v) (hlo : (if c8 < 0 then -c8 else c8) % 100 - 50 = lo) (hhi : lo + (if c9 < 0 then -c9 else c9) % 100 = hi) : d_law [.scr (dInts s)] = .ok (.bl true) := by
  have fR := D.pureL_frzL RS pR
  have cR := D.pureL_cold RS pR
  have i1 := no_int v lo hi 1000
  have i2 := co_int v (-1)
  have i3 := co_int 16777215 (-1)
  have ec : (if (if v < hi then v else hi) > lo then (if v < hi then v else hi) else lo) = clamp lo hi v := rfl
  have ec' : (if lo < (if v < hi then v else hi) then (if v < hi then v else hi) else lo) = clamp lo hi v := rfl
  rw [if_pos (by omega)] at i3
  have t1 : (Str.ofString "none" == Str.ofString "int") = false := by decide +kernel
  have t2 : (Str.ofString "bool" == Str.ofString "int") = false := by decide +kernel
  have t3 : (Str.ofString "name" == Str.ofString "int") = false := by decide +kernel
  have t4 : (Str.ofString "text" == Str.ofString "int") = false := by decide +kernel
  have l2 : ∀ (y0 y1 y2 y3 y4 y7 y8 y9 : Option D), ∃ z8, forL (gNm 8) lp_law_2 [.tup [.str (Str.ofString "none")], .tup [.str (Str.ofString "bool"), .int 1], .tup [.str (Str.ofString "name"), .tup [.int 49]], .tup [.str (Str.ofString "text"), .tup []]] [y0, y1, y2, y3, y4, some (.int lo), some (.int hi), y7, y8, y9] = .nx [y0, y1, y2, y3, y4, some (.int lo), some (.int hi), y7, z8, y9] :=
    fun y0 y1 y2 y3 y4 y7 y8 y9 => ⟨_, forL_nx rfl (lw2_core y0 y1 y2 y3 y4 y7 y9 lo hi _ [] rfl t1) (forL_nx rfl (lw2_core y0 y1 y2 y3 y4 y7 y9 lo hi _ [.int 1] rfl t2) (forL_nx rfl (lw2_core y0 y1 y2 y3 y4 y7 y9 lo hi _ [.tup [.int 49]] rfl t3) (forL_nx rfl (lw2_core y0 y1 y2 y3 y4 y7 y9 lo hi _ [.tup []] rfl t4) rfl)))⟩
  by_cases g : 0 ≤ v ∧ v ≤ 16777215
  · rw [if_pos g] at i2
    obtain ⟨z8, l2⟩ := l2 (some (.scr (dInts s))) (some (.lst true RS)) (some B) z3 (some (.int v)) (some (.int v)) none z9
    simp [d_law, pc_b_law, fnD, callF, pc_b_law_1, pc_b_law_2, pc_b_law_3, pc_b_law_4, pc_b_law_5, pc_b_law_6, pc_b_law_7, pc_b_law_8, pc_b_law_9, pc_b_law_10, pc_b_law_11, pc_b_law_12, h1, fR, cR, pR, h2, nB, h6, h7, h8, h9, hq, ha, hx, hl, hv, hlo, hhi, i1, i2, i3, ec, ec', e3, g.1, g.2, l2, -gStr_int, -gAdd_str]
  · rw [if_neg g] at i2
    obtain ⟨z8, l2⟩ := l2 (some (.scr (dInts s))) (some (.lst true RS)) (some B) z3 (some (.int v)) (some (.int (-1))) none z9
    by_cases g1 : 0 ≤ v
    · have g2 : ¬ v ≤ 16777215 := fun z => g ⟨g1, z⟩
      simp [d_law, pc_b_law, fnD, callF, pc_b_law_1, pc_b_law_2, pc_b_law_3, pc_b_law_4, pc_b_law_5, pc_b_law_6, pc_b_law_7, pc_b_law_8, pc_b_law_9, pc_b_law_10, pc_b_law_11, pc_b_law_12, h1, fR, cR, pR, h2, nB, h6, h7, h8, h9, hq, ha, hx, hl, hv, hlo, hhi, i1, i2, i3, ec, ec', e3, g1, g2, l2, -gStr_int, -gAdd_str]
    · simp [d_law, pc_b_law, fnD, callF, pc_b_law_1, pc_b_law_2, pc_b_law_3, pc_b_law_4, pc_b_law_5, pc_b_law_6, pc_b_law_7, pc_b_law_8, pc_b_law_9, pc_b_law_10, pc_b_law_11, pc_b_law_12, h1, fR, cR, pR, h2, nB, h6, h7, h8, h9, hq, ha, hx, hl, hv, hlo, hhi, i1, i2, i3, ec, ec', e3, g1, l2, -gStr_int, -gAdd_str]
theorem book_noFz (rows : List Row) : (bookD rows).noFz = true := by
  have nR : (rootD rows).noFz = true := dc_noFz _ fun p hp => by
    rcases List.mem_cons.mp hp with rfl | hp
    · exact sty_noFz rows
    · rw [List.mem_singleton.mp hp]; rfl
  have go : ∀ os : List (Int × D), (∀ o ∈ os, o.2.noFz = true) → D.noFzL (os.map obD) = true := by
    intro os
    induction os with
    | nil => intro _; rfl
    | cons o os ih =>
      intro h
      rw [List.map_cons, noFzL_cons, ih fun q hq => h q (List.mem_cons_of_mem _ hq)]
      have := h o List.mem_cons_self
      simp [obD, this]
  have := go (objs rows) fun o ho => by
    rcases List.mem_cons.mp ho with rfl | ho
    · exact nR
    · obtain ⟨k, _, rfl⟩ := List.mem_map.mp ho
      rfl
  simp [bookD, this]
theorem law_true (ns : List Int) (hl : ns.length ≤ 63) : d_law [.scr (dInts ns)] = .ok (.bl true) := by
  obtain ⟨rows, h1, ok, okn⟩ := m_styles ns
  obtain ⟨k, hk⟩ := Int.eq_ofNat_of_zero_le (show 0 ≤ (if cell ns 6 < 0 then -cell ns 6 else cell ns 6) % 12 by omega)
  obtain ⟨y, x, ha, hx, ox⟩ := chn k (by omega)
  obtain ⟨z3, z9, hl1⟩ := lw1_loop (some (.scr (dInts ns))) rows ok okn none none none none none [Str.ofString "a", Str.ofString "b", Str.ofString "c", Str.ofString "d", Str.ofString "chain0", x, Str.ofString "", Str.ofString "zz"] none none (by
    intro n hn
    simp only [List.mem_cons, List.not_mem_nil, or_false] at hn
    rcases hn with rfl | rfl | rfl | rfl | rfl | rfl | rfl | rfl
    · unfold okS; decide +kernel
    · unfold okS; decide +kernel
    · unfold okS; decide +kernel
    · unfold okS; decide +kernel
    · unfold okS; decide +kernel
    · exact ox
    · unfold okS; decide +kernel
    · unfold okS; decide +kernel)
  exact law_core ns (rows.map rowD) (bookD rows) _ _ _ _ _ _ _ 0 _ 0 y x z3 z9 (rowDs_pure rows) h1 (m_book rows okn) (book_noFz rows) (m_cell ns 6) (m_cell ns 7) (m_cell ns 8) (m_cell ns 9) hk ha hx hl1 rfl rfl rfl

end
theorem end_ok {K : PySem.W.Frag} {P : Program} {w : World} {mg : Str → Option Value} {base : Heap} {A : Ad} (T : Txt K mg A) : FnOk P w K mg base (L2.CX P w) 7 A.a_law A.fd_law ["_law_script"] (spLaw K) := end_of (kx := kx K) (ok_law T) rfl law_true
theorem all_mk {l : PySem.W.OpenLaw} {w : World} {K : PySem.W.Frag} {h : Heap} {mg : Str → Option Value} {fa f0 f1 f2 f3 f4 f5 f6 f7 f8 f9 f10 f11 f12 f13 f14 f15 f16 f17 f18 f19 f20 f21 f22 f23 f24 f25 f26 f27 f28 f29 f30 f31 f32 f33  : Addr} {od0 an0 od1 an1 od2 an2 od3 an3 od4 an4 od5 an5 od6 an6 od7 an7 od8 an8 od9 an9 od10 an10 od11 an11 od12 an12 od13 an13 od14 an14 od15 an15 od16 an16 od17 an17 od18 an18 od19 an19 od20 an20 od21 an21 od22 an22 od23 an23 od24 an24 od25 an25 od26 an26 od27 an27 od28 an28 od29 an29 od30 an30 od31 an31 od32 an32 od33 an33 : Option Addr} {sl0 sl1 sl2 sl3 sl4 sl5 sl6 sl7 sl8 sl9 sl10 sl11 sl12 sl13 sl14 sl15 sl16 sl17 sl18 sl19 sl20 sl21 sl22 sl23 sl24 sl25 sl26 sl27 sl28 sl29 sl30 sl31 sl32 sl33 : Array (Option Value)} {oc0 kV0 dc0 pm0 cd0 ct0 oc1 kV1 dc1 pm1 cd1 ct1 oc2 kV2 dc2 pm2 cd2 ct2 oc3 kV3 dc3 pm3 cd3 ct3 oc4 kV4 dc4 pm4 cd4 ct4 oc5 kV5 dc5 pm5 cd5 ct5 oc6 kV6 dc6 pm6 cd6 ct6 oc7 kV7 dc7 pm7 cd7 ct7 oc8 kV8 dc8 pm8 cd8 ct8 oc9 kV9 dc9 pm9 cd9 ct9 oc10 kV10 dc10 pm10 cd10 ct10 oc11 kV11 dc11 pm11 cd11 ct11 oc12 kV12 dc12 pm12 cd12 ct12 oc13 kV13 dc13 pm13 cd13 ct13 oc14 kV14 dc14 pm14 cd14 ct14 oc15 kV15 dc15 pm15 cd15 ct15 oc16 kV16 dc16 pm16 cd16 ct16 oc17 kV17 dc17 pm17 cd17 ct17 oc18 kV18 dc18 pm18 cd18 ct18 oc19 kV19 dc19 pm19 cd19 ct19 oc20 kV20 dc20 pm20 cd20 ct20 oc21 kV21 dc21 pm21 cd21 ct21 oc22 kV22 dc22 pm22 cd22 ct22 oc23 kV23 dc23 pm23 cd23 ct23 oc24 kV24 dc24 pm24 cd24 ct24 oc25 kV25 dc25 pm25 cd25 ct25 oc26 kV26 dc26 pm26 cd26 ct26 oc27 kV27 dc27 pm27 cd27 ct27 oc28 kV28 dc28 pm28 cd28 ct28 oc29 kV29 dc29 pm29 cd29 ct29 oc30 kV30 dc30 pm30 cd30 ct30 oc31 kV31 dc31 pm31 cd31 ct31 oc32 kV32 dc32 pm32 cd32 ct32 oc33 kV33 dc33 pm33 cd33 ct33 : Value} {t1_ALIGNS : Tok} {t2_ALIGNS : Tok} {t3_ALIGNS : Tok} {q0_ALIGNS : Addr} {n0_ALIGNS : Nat} {sl0_ALIGNS : Array (Option Value)} {od0_ALIGNS : Option Addr} {t_ENOUGH : Tok} {t_MOST_STEPS : Tok} {t_MOST_STYLES : Tok} {t1_NONE : Tok} {q0_NONE : Addr} {n0_NONE : Nat} {sl0_NONE : Array (Option Value)} {od0_NONE : Option Addr} {t_WHITEST : Tok} (X : K.In h) (G : h.Ns mainGlobals mg) (hfa : mg "law" = some (.ref fa)) (a0 : PySem.W.nsIn K mainGlobals "_law_codes" = some (some (.ref f0))) (l0 : K.lookup f0 = some ⟨oc0, od0, .func (PySem.W.fnOf "_law_codes" "_law_codes" (defArgs s__law_codes) (defBody s__law_codes) (defScope s__law_codes) .none kV0 dc0 pm0 an0 cd0 ct0), sl0⟩) (c0 : PySem.W.codeIn K cd0 "_law_codes" = true) (k0 : PySem.W.keepIn K (.ref f0) = true) (a1 : PySem.W.nsIn K mainGlobals "_law_dict" = some (some (.ref f1))) (l1 : K.lookup f1 = some ⟨oc1, od1, .func (PySem.W.fnOf "_law_dict" "_law_dict" (defArgs s__law_dict) (defBody s__law_dict) (defScope s__law_dict) .none kV1 dc1 pm1 an1 cd1 ct1), sl1⟩) (c1 : PySem.W.codeIn K cd1 "_law_dict" = true) (k1 : PySem.W.keepIn K (.ref f1) = true) (a2 : PySem.W.nsIn K mainGlobals "_law_cell" = some (some (.ref f2))) (l2 : K.lookup f2 = some ⟨oc2, od2, .func (PySem.W.fnOf "_law_cell" "_law_cell" (defArgs s__law_cell) (defBody s__law_cell) (defScope s__law_cell) .none kV2 dc2 pm2 an2 cd2 ct2), sl2⟩) (c2 : PySem.W.codeIn K cd2 "_law_cell" = true) (k2 : PySem.W.keepIn K (.ref f2) = true) (a3 : PySem.W.nsIn K mainGlobals "_law_name" = some (some (.ref f3))) (l3 : K.lookup f3 = some ⟨oc3, od3, .func (PySem.W.fnOf "_law_name" "_law_name" (defArgs s__law_name) (defBody s__law_name) (defScope s__law_name) .none kV3 dc3 pm3 an3 cd3 ct3), sl3⟩) (c3 : PySem.W.codeIn K cd3 "_law_name" = true) (k3 : PySem.W.keepIn K (.ref f3) = true) (a4 : PySem.W.nsIn K mainGlobals "_law_property" = some (some (.ref f4))) (l4 : K.lookup f4 = some ⟨oc4, od4, .func (PySem.W.fnOf "_law_property" "_law_property" (defArgs s__law_property) (defBody s__law_property) (defScope s__law_property) .none kV4 dc4 pm4 an4 cd4 ct4), sl4⟩) (c4 : PySem.W.codeIn K cd4 "_law_property" = true) (k4 : PySem.W.keepIn K (.ref f4) = true) (a5 : PySem.W.nsIn K mainGlobals "_law_twice" = some (some (.ref f5))) (l5 : K.lookup f5 = some ⟨oc5, od5, .func (PySem.W.fnOf "_law_twice" "_law_twice" (defArgs s__law_twice) (defBody s__law_twice) (defScope s__law_twice) .none kV5 dc5 pm5 an5 cd5 ct5), sl5⟩) (c5 : PySem.W.codeIn K cd5 "_law_twice" = true) (k5 : PySem.W.keepIn K (.ref f5) = true) (a6 : PySem.W.nsIn K mainGlobals "_law_styles" = some (some (.ref f6))) (l6 : K.lookup f6 = some ⟨oc6, od6, .func (PySem.W.fnOf "_law_styles" "_law_styles" (defArgs s__law_styles) (defBody s__law_styles) (defScope s__law_styles) .none kV6 dc6 pm6 an6 cd6 ct6), sl6⟩) (c6 : PySem.W.codeIn K cd6 "_law_styles" = true) (k6 : PySem.W.keepIn K (.ref f6) = true) (a7 : PySem.W.nsIn K mainGlobals "_law_book" = some (some (.ref f7))) (l7 : K.lookup f7 = some ⟨oc7, od7, .func (PySem.W.fnOf "_law_book" "_law_book" (defArgs s__law_book) (defBody s__law_book) (defScope s__law_book) .none kV7 dc7 pm7 an7 cd7 ct7), sl7⟩) (c7 : PySem.W.codeIn K cd7 "_law_book" = true) (k7 : PySem.W.keepIn K (.ref f7) = true) (a8 : PySem.W.nsIn K mainGlobals "spend" = some (some (.ref f8))) (l8 : K.lookup f8 = some ⟨oc8, od8, .func (PySem.W.fnOf "spend" "spend" (defArgs s_spend) (defBody s_spend) (defScope s_spend) .none kV8 dc8 pm8 an8 cd8 ct8), sl8⟩) (c8 : PySem.W.codeIn K cd8 "spend" = true) (k8 : PySem.W.keepIn K (.ref f8) = true) (a9 : PySem.W.nsIn K mainGlobals "find" = some (some (.ref f9))) (l9 : K.lookup f9 = some ⟨oc9, od9, .func (PySem.W.fnOf "find" "find" (defArgs s_find) (defBody s_find) (defScope s_find) .none kV9 dc9 pm9 an9 cd9 ct9), sl9⟩) (c9 : PySem.W.codeIn K cd9 "find" = true) (k9 : PySem.W.keepIn K (.ref f9) = true) (a10 : PySem.W.nsIn K mainGlobals "follow" = some (some (.ref f10))) (l10 : K.lookup f10 = some ⟨oc10, od10, .func (PySem.W.fnOf "follow" "follow" (defArgs s_follow) (defBody s_follow) (defScope s_follow) .none kV10 dc10 pm10 an10 cd10 ct10), sl10⟩) (c10 : PySem.W.codeIn K cd10 "follow" = true) (k10 : PySem.W.keepIn K (.ref f10) = true) (a11 : PySem.W.nsIn K mainGlobals "look" = some (some (.ref f11))) (l11 : K.lookup f11 = some ⟨oc11, od11, .func (PySem.W.fnOf "look" "look" (defArgs s_look) (defBody s_look) (defScope s_look) .none kV11 dc11 pm11 an11 cd11 ct11), sl11⟩) (c11 : PySem.W.codeIn K cd11 "look" = true) (k11 : PySem.W.keepIn K (.ref f11) = true) (a12 : PySem.W.nsIn K mainGlobals "get" = some (some (.ref f12))) (l12 : K.lookup f12 = some ⟨oc12, od12, .func (PySem.W.fnOf "get" "get" (defArgs s_get) (defBody s_get) (defScope s_get) .none kV12 dc12 pm12 an12 cd12 ct12), sl12⟩) (c12 : PySem.W.codeIn K cd12 "get" = true) (k12 : PySem.W.keepIn K (.ref f12) = true) (a13 : PySem.W.nsIn K mainGlobals "key" = some (some (.ref f13))) (l13 : K.lookup f13 = some ⟨oc13, od13, .func (PySem.W.fnOf "key" "key" (defArgs s_key) (defBody s_key) (defScope s_key) .none kV13 dc13 pm13 an13 cd13 ct13), sl13⟩) (c13 : PySem.W.codeIn K cd13 "key" = true) (k13 : PySem.W.keepIn K (.ref f13) = true) (a14 : PySem.W.nsIn K mainGlobals "root_of" = some (some (.ref f14))) (l14 : K.lookup f14 = some ⟨oc14, od14, .func (PySem.W.fnOf "root_of" "root_of" (defArgs s_root_of) (defBody s_root_of) (defScope s_root_of) .none kV14 dc14 pm14 an14 cd14 ct14), sl14⟩) (c14 : PySem.W.codeIn K cd14 "root_of" = true) (k14 : PySem.W.keepIn K (.ref f14) = true) (a15 : PySem.W.nsIn K mainGlobals "key_of_bytes" = some (some (.ref f15))) (l15 : K.lookup f15 = some ⟨oc15, od15, .func (PySem.W.fnOf "key_of_bytes" "key_of_bytes" (defArgs s_key_of_bytes) (defBody s_key_of_bytes) (defScope s_key_of_bytes) .none kV15 dc15 pm15 an15 cd15 ct15), sl15⟩) (c15 : PySem.W.codeIn K cd15 "key_of_bytes" = true) (k15 : PySem.W.keepIn K (.ref f15) = true) (a16 : PySem.W.nsIn K mainGlobals "data_of" = some (some (.ref f16))) (l16 : K.lookup f16 = some ⟨oc16, od16, .func (PySem.W.fnOf "data_of" "data_of" (defArgs s_data_of) (defBody s_data_of) (defScope s_data_of) .none kV16 dc16 pm16 an16 cd16 ct16), sl16⟩) (c16 : PySem.W.codeIn K cd16 "data_of" = true) (k16 : PySem.W.keepIn K (.ref f16) = true) (a17 : PySem.W.nsIn K mainGlobals "style_dicts" = some (some (.ref f17))) (l17 : K.lookup f17 = some ⟨oc17, od17, .func (PySem.W.fnOf "style_dicts" "style_dicts" (defArgs s_style_dicts) (defBody s_style_dicts) (defScope s_style_dicts) .none kV17 dc17 pm17 an17 cd17 ct17), sl17⟩) (c17 : PySem.W.codeIn K cd17 "style_dicts" = true) (k17 : PySem.W.keepIn K (.ref f17) = true) (a18 : PySem.W.nsIn K mainGlobals "first_integer" = some (some (.ref f18))) (l18 : K.lookup f18 = some ⟨oc18, od18, .func (PySem.W.fnOf "first_integer" "first_integer" (defArgs s_first_integer) (defBody s_first_integer) (defScope s_first_integer) .none kV18 dc18 pm18 an18 cd18 ct18), sl18⟩) (c18 : PySem.W.codeIn K cd18 "first_integer" = true) (k18 : PySem.W.keepIn K (.ref f18) = true) (a19 : PySem.W.nsIn K mainGlobals "first_name" = some (some (.ref f19))) (l19 : K.lookup f19 = some ⟨oc19, od19, .func (PySem.W.fnOf "first_name" "first_name" (defArgs s_first_name) (defBody s_first_name) (defScope s_first_name) .none kV19 dc19 pm19 an19 cd19 ct19), sl19⟩) (c19 : PySem.W.codeIn K cd19 "first_name" = true) (k19 : PySem.W.keepIn K (.ref f19) = true) (a20 : PySem.W.nsIn K mainGlobals "number_of" = some (some (.ref f20))) (l20 : K.lookup f20 = some ⟨oc20, od20, .func (PySem.W.fnOf "number_of" "number_of" (defArgs s_number_of) (defBody s_number_of) (defScope s_number_of) .none kV20 dc20 pm20 an20 cd20 ct20), sl20⟩) (c20 : PySem.W.codeIn K cd20 "number_of" = true) (k20 : PySem.W.keepIn K (.ref f20) = true) (a21 : PySem.W.nsIn K mainGlobals "bounded" = some (some (.ref f21))) (l21 : K.lookup f21 = some ⟨oc21, od21, .func (PySem.W.fnOf "bounded" "bounded" (defArgs s_bounded) (defBody s_bounded) (defScope s_bounded) .none kV21 dc21 pm21 an21 cd21 ct21), sl21⟩) (c21 : PySem.W.codeIn K cd21 "bounded" = true) (k21 : PySem.W.keepIn K (.ref f21) = true) (a22 : PySem.W.nsIn K mainGlobals "codes" = some (some (.ref f22))) (l22 : K.lookup f22 = some ⟨oc22, od22, .func (PySem.W.fnOf "codes" "codes" (defArgs s_codes) (defBody s_codes) (defScope s_codes) .none kV22 dc22 pm22 an22 cd22 ct22), sl22⟩) (c22 : PySem.W.codeIn K cd22 "codes" = true) (k22 : PySem.W.keepIn K (.ref f22) = true) (a23 : PySem.W.nsIn K mainGlobals "style_of" = some (some (.ref f23))) (l23 : K.lookup f23 = some ⟨oc23, od23, .func (PySem.W.fnOf "style_of" "style_of" (defArgs s_style_of) (defBody s_style_of) (defScope s_style_of) .none kV23 dc23 pm23 an23 cd23 ct23), sl23⟩) (c23 : PySem.W.codeIn K cd23 "style_of" = true) (k23 : PySem.W.keepIn K (.ref f23) = true) (a24 : PySem.W.nsIn K mainGlobals "colour_of" = some (some (.ref f24))) (l24 : K.lookup f24 = some ⟨oc24, od24, .func (PySem.W.fnOf "colour_of" "colour_of" (defArgs s_colour_of) (defBody s_colour_of) (defScope s_colour_of) .none kV24 dc24 pm24 an24 cd24 ct24), sl24⟩) (c24 : PySem.W.codeIn K cd24 "colour_of" = true) (k24 : PySem.W.keepIn K (.ref f24) = true) (a25 : PySem.W.nsIn K mainGlobals "_law_look" = some (some (.ref f25))) (l25 : K.lookup f25 = some ⟨oc25, od25, .func (PySem.W.fnOf "_law_look" "_law_look" (defArgs s__law_look) (defBody s__law_look) (defScope s__law_look) .none kV25 dc25 pm25 an25 cd25 ct25), sl25⟩) (c25 : PySem.W.codeIn K cd25 "_law_look" = true) (k25 : PySem.W.keepIn K (.ref f25) = true) (a26 : PySem.W.nsIn K mainGlobals "_law_get" = some (some (.ref f26))) (l26 : K.lookup f26 = some ⟨oc26, od26, .func (PySem.W.fnOf "_law_get" "_law_get" (defArgs s__law_get) (defBody s__law_get) (defScope s__law_get) .none kV26 dc26 pm26 an26 cd26 ct26), sl26⟩) (c26 : PySem.W.codeIn K cd26 "_law_get" = true) (k26 : PySem.W.keepIn K (.ref f26) = true) (a27 : PySem.W.nsIn K mainGlobals "_law_chain" = some (some (.ref f27))) (l27 : K.lookup f27 = some ⟨oc27, od27, .func (PySem.W.fnOf "_law_chain" "_law_chain" (defArgs s__law_chain) (defBody s__law_chain) (defScope s__law_chain) .none kV27 dc27 pm27 an27 cd27 ct27), sl27⟩) (c27 : PySem.W.codeIn K cd27 "_law_chain" = true) (k27 : PySem.W.keepIn K (.ref f27) = true) (a28 : PySem.W.nsIn K mainGlobals "_law_first" = some (some (.ref f28))) (l28 : K.lookup f28 = some ⟨oc28, od28, .func (PySem.W.fnOf "_law_first" "_law_first" (defArgs s__law_first) (defBody s__law_first) (defScope s__law_first) .none kV28 dc28 pm28 an28 cd28 ct28), sl28⟩) (c28 : PySem.W.codeIn K cd28 "_law_first" = true) (k28 : PySem.W.keepIn K (.ref f28) = true) (a29 : PySem.W.nsIn K mainGlobals "_law_or" = some (some (.ref f29))) (l29 : K.lookup f29 = some ⟨oc29, od29, .func (PySem.W.fnOf "_law_or" "_law_or" (defArgs s__law_or) (defBody s__law_or) (defScope s__law_or) .none kV29 dc29 pm29 an29 cd29 ct29), sl29⟩) (c29 : PySem.W.codeIn K cd29 "_law_or" = true) (k29 : PySem.W.keepIn K (.ref f29) = true) (a30 : PySem.W.nsIn K mainGlobals "_law_near" = some (some (.ref f30))) (l30 : K.lookup f30 = some ⟨oc30, od30, .func (PySem.W.fnOf "_law_near" "_law_near" (defArgs s__law_near) (defBody s__law_near) (defScope s__law_near) .none kV30 dc30 pm30 an30 cd30 ct30), sl30⟩) (c30 : PySem.W.codeIn K cd30 "_law_near" = true) (k30 : PySem.W.keepIn K (.ref f30) = true) (a31 : PySem.W.nsIn K mainGlobals "_law_align" = some (some (.ref f31))) (l31 : K.lookup f31 = some ⟨oc31, od31, .func (PySem.W.fnOf "_law_align" "_law_align" (defArgs s__law_align) (defBody s__law_align) (defScope s__law_align) .none kV31 dc31 pm31 an31 cd31 ct31), sl31⟩) (c31 : PySem.W.codeIn K cd31 "_law_align" = true) (k31 : PySem.W.keepIn K (.ref f31) = true) (a32 : PySem.W.nsIn K mainGlobals "_law_due" = some (some (.ref f32))) (l32 : K.lookup f32 = some ⟨oc32, od32, .func (PySem.W.fnOf "_law_due" "_law_due" (defArgs s__law_due) (defBody s__law_due) (defScope s__law_due) .none kV32 dc32 pm32 an32 cd32 ct32), sl32⟩) (c32 : PySem.W.codeIn K cd32 "_law_due" = true) (k32 : PySem.W.keepIn K (.ref f32) = true) (a33 : PySem.W.nsIn K mainGlobals "law" = some (some (.ref f33))) (l33 : K.lookup f33 = some ⟨oc33, od33, .func (PySem.W.fnOf "law" "law" (defArgs s_law) (defBody s_law) (defScope s_law) .none kV33 dc33 pm33 an33 cd33 ct33), sl33⟩) (c33 : PySem.W.codeIn K cd33 "law" = true) (k33 : PySem.W.keepIn K (.ref f33) = true) (z_abs : PySem.W.nsIn K mainGlobals "abs" = some none) (z_int : PySem.W.nsIn K mainGlobals "int" = some none) (z_isinstance : PySem.W.nsIn K mainGlobals "isinstance" = some none) (z_len : PySem.W.nsIn K mainGlobals "len" = some none) (z_max : PySem.W.nsIn K mainGlobals "max" = some none) (z_min : PySem.W.nsIn K mainGlobals "min" = some none) (z_ord : PySem.W.nsIn K mainGlobals "ord" = some none) (z_range : PySem.W.nsIn K mainGlobals "range" = some none) (z_str : PySem.W.nsIn K mainGlobals "str" = some none) (z_tuple : PySem.W.nsIn K mainGlobals "tuple" = some none) (g_ALIGNS : PySem.W.nsIn K mainGlobals "ALIGNS" = some (some (.ref q0_ALIGNS))) (g0_ALIGNS : K.lookup q0_ALIGNS = some ⟨.type "tuple", od0_ALIGNS, .seq #[.str "Left" t1_ALIGNS, .str "Middle" t2_ALIGNS, .str "Right" t3_ALIGNS] n0_ALIGNS, sl0_ALIGNS⟩) (g_ENOUGH : PySem.W.nsIn K mainGlobals "ENOUGH" = some (some (.int 1000 t_ENOUGH))) (g_MOST_STEPS : PySem.W.nsIn K mainGlobals "MOST_STEPS" = some (some (.int 64 t_MOST_STEPS))) (g_MOST_STYLES : PySem.W.nsIn K mainGlobals "MOST_STYLES" = some (some (.int 8 t_MOST_STYLES))) (g_NONE : PySem.W.nsIn K mainGlobals "NONE" = some (some (.ref q0_NONE))) (g0_NONE : K.lookup q0_NONE = some ⟨.type "tuple", od0_NONE, .seq #[.str "none" t1_NONE] n0_NONE, sl0_NONE⟩) (g_WHITEST : PySem.W.nsIn K mainGlobals "WHITEST" = some (some (.int 16777215 t_WHITEST))) :
    ∃ fd : FuncData, (∀ (s : Shared) (v : Value), BindsTo s fd ⟨[v], []⟩ [("_law_script", v)]) ∧ ∀ base : Heap, K.In base → base.Ns mainGlobals mg → FnOk l.prog w K mg base (L2.CX l.prog w) 7 fa fd ["_law_script"] (spLaw K) := by
  have e := hfa.symm.trans (PySem.W.mg_of X G a33)
  cases e
  have F0 := fun_mk (st := s__law_codes) l0 c0 k0
  have B0 := F0.binds (ps := ["_law_text_here"]) fun _ _ _ _ _ _ us hl => match us, hl with | [_], _ => rfl
  have F1 := fun_mk (st := s__law_dict) l1 c1 k1
  have B1 := F1.binds (ps := ["_law_names", "_law_values"]) fun _ _ _ _ _ _ us hl => match us, hl with | [_, _], _ => rfl
  have F2 := fun_mk (st := s__law_cell) l2 c2 k2
  have B2 := F2.binds (ps := ["_law_script", "_law_k"]) fun _ _ _ _ _ _ us hl => match us, hl with | [_, _], _ => rfl
  have F3 := fun_mk (st := s__law_name) l3 c3 k3
  have B3 := F3.binds (ps := ["_law_text_here"]) fun _ _ _ _ _ _ us hl => match us, hl with | [_], _ => rfl
  have F4 := fun_mk (st := s__law_property) l4 c4 k4
  have B4 := F4.binds (ps := ["_law_cell_here", "_law_kind"]) fun _ _ _ _ _ _ us hl => match us, hl with | [_, _], _ => rfl
  have F5 := fun_mk (st := s__law_twice) l5 c5 k5
  have B5 := F5.binds (ps := ["_law_cell_here", "_law_k"]) fun _ _ _ _ _ _ us hl => match us, hl with | [_, _], _ => rfl
  have F6 := fun_mk (st := s__law_styles) l6 c6 k6
  have B6 := F6.binds (ps := ["_law_script"]) fun _ _ _ _ _ _ us hl => match us, hl with | [_], _ => rfl
  have F7 := fun_mk (st := s__law_book) l7 c7 k7
  have B7 := F7.binds (ps := ["_law_rows"]) fun _ _ _ _ _ _ us hl => match us, hl with | [_], _ => rfl
  have F8 := fun_mk (st := s_spend) l8 c8 k8
  have B8 := F8.binds (ps := ["left", "cost"]) fun _ _ _ _ _ _ us hl => match us, hl with | [_, _], _ => rfl
  have F9 := fun_mk (st := s_find) l9 c9 k9
  have B9 := F9.binds (ps := ["book", "number"]) fun _ _ _ _ _ _ us hl => match us, hl with | [_, _], _ => rfl
  have F10 := fun_mk (st := s_follow) l10 c10 k10
  have B10 := F10.binds (ps := ["book", "value", "left"]) fun _ _ _ _ _ _ us hl => match us, hl with | [_, _, _], _ => rfl
  have F11 := fun_mk (st := s_look) l11 c11 k11
  have B11 := F11.binds (ps := ["book", "value"]) fun _ _ _ _ _ _ us hl => match us, hl with | [_, _], _ => rfl
  have F12 := fun_mk (st := s_get) l12 c12 k12
  have B12 := F12.binds (ps := ["value", "key"]) fun _ _ _ _ _ _ us hl => match us, hl with | [_, _], _ => rfl
  have F13 := fun_mk (st := s_key) l13 c13 k13
  have B13 := F13.binds (ps := ["book", "value", "name"]) fun _ _ _ _ _ _ us hl => match us, hl with | [_, _, _], _ => rfl
  have F14 := fun_mk (st := s_root_of) l14 c14 k14
  have B14 := F14.binds (ps := ["book"]) fun _ _ _ _ _ _ us hl => match us, hl with | [_], _ => rfl
  have F15 := fun_mk (st := s_key_of_bytes) l15 c15 k15
  have B15 := F15.binds (ps := ["book", "value", "data"]) fun _ _ _ _ _ _ us hl => match us, hl with | [_, _, _], _ => rfl
  have F16 := fun_mk (st := s_data_of) l16 c16 k16
  have B16 := F16.binds (ps := ["value", "kind"]) fun _ _ _ _ _ _ us hl => match us, hl with | [_, _], _ => rfl
  have F17 := fun_mk (st := s_style_dicts) l17 c17 k17
  have B17 := F17.binds (ps := ["book", "name"]) fun _ _ _ _ _ _ us hl => match us, hl with | [_, _], _ => rfl
  have F18 := fun_mk (st := s_first_integer) l18 c18 k18
  have B18 := F18.binds (ps := ["book", "dicts", "name", "low", "high"]) fun _ _ _ _ _ _ us hl => match us, hl with | [_, _, _, _, _], _ => rfl
  have F19 := fun_mk (st := s_first_name) l19 c19 k19
  have B19 := F19.binds (ps := ["book", "dicts", "name", "allowed"]) fun _ _ _ _ _ _ us hl => match us, hl with | [_, _, _, _], _ => rfl
  have F20 := fun_mk (st := s_number_of) l20 c20 k20
  have B20 := F20.binds (ps := ["value", "low", "high", "other"]) fun _ _ _ _ _ _ us hl => match us, hl with | [_, _, _, _], _ => rfl
  have F21 := fun_mk (st := s_bounded) l21 c21 k21
  have B21 := F21.binds (ps := ["book", "dicts", "name", "low", "high", "other"]) fun _ _ _ _ _ _ us hl => match us, hl with | [_, _, _, _, _, _], _ => rfl
  have F22 := fun_mk (st := s_codes) l22 c22 k22
  have B22 := F22.binds (ps := ["text"]) fun _ _ _ _ _ _ us hl => match us, hl with | [_], _ => rfl
  have F23 := fun_mk (st := s_style_of) l23 c23 k23
  have B23 := F23.binds (ps := ["book", "name"]) fun _ _ _ _ _ _ us hl => match us, hl with | [_, _], _ => rfl
  have F24 := fun_mk (st := s_colour_of) l24 c24 k24
  have B24 := F24.binds (ps := ["value", "other"]) fun _ _ _ _ _ _ us hl => match us, hl with | [_, _], _ => rfl
  have F25 := fun_mk (st := s__law_look) l25 c25 k25
  have B25 := F25.binds (ps := ["_law_book_here", "_law_value"]) fun _ _ _ _ _ _ us hl => match us, hl with | [_, _], _ => rfl
  have F26 := fun_mk (st := s__law_get) l26 c26 k26
  have B26 := F26.binds (ps := ["_law_book_here", "_law_one", "_law_name_here"]) fun _ _ _ _ _ _ us hl => match us, hl with | [_, _, _], _ => rfl
  have F27 := fun_mk (st := s__law_chain) l27 c27 k27
  have B27 := F27.binds (ps := ["_law_book_here", "_law_rows", "_law_name_here"]) fun _ _ _ _ _ _ us hl => match us, hl with | [_, _, _], _ => rfl
  have F28 := fun_mk (st := s__law_first) l28 c28 k28
  have B28 := F28.binds (ps := ["_law_book_here", "_law_chain_here", "_law_name_here", "_law_kind", "_law_low", "_law_high"]) fun _ _ _ _ _ _ us hl => match us, hl with | [_, _, _, _, _, _], _ => rfl
  have F29 := fun_mk (st := s__law_or) l29 c29 k29
  have B29 := F29.binds (ps := ["_law_value", "_law_other"]) fun _ _ _ _ _ _ us hl => match us, hl with | [_, _], _ => rfl
  have F30 := fun_mk (st := s__law_near) l30 c30 k30
  have B30 := F30.binds (ps := ["_law_book_here", "_law_chain_here", "_law_name_here", "_law_low", "_law_high", "_law_other"]) fun _ _ _ _ _ _ us hl => match us, hl with | [_, _, _, _, _, _], _ => rfl
  have F31 := fun_mk (st := s__law_align) l31 c31 k31
  have B31 := F31.binds (ps := ["_law_book_here", "_law_chain_here"]) fun _ _ _ _ _ _ us hl => match us, hl with | [_, _], _ => rfl
  have F32 := fun_mk (st := s__law_due) l32 c32 k32
  have B32 := F32.binds (ps := ["_law_book_here", "_law_rows", "_law_name_here"]) fun _ _ _ _ _ _ us hl => match us, hl with | [_, _, _], _ => rfl
  have F33 := fun_mk (st := s_law) l33 c33 k33
  have B33 := F33.binds (ps := ["_law_script"]) fun _ _ _ _ _ _ us hl => match us, hl with | [_], _ => rfl
  have T : Txt K mg ⟨f0, (PySem.W.fnOf "_law_codes" "_law_codes" (defArgs s__law_codes) (defBody s__law_codes) (defScope s__law_codes) .none kV0 dc0 pm0 an0 cd0 ct0), f1, (PySem.W.fnOf "_law_dict" "_law_dict" (defArgs s__law_dict) (defBody s__law_dict) (defScope s__law_dict) .none kV1 dc1 pm1 an1 cd1 ct1), f2, (PySem.W.fnOf "_law_cell" "_law_cell" (defArgs s__law_cell) (defBody s__law_cell) (defScope s__law_cell) .none kV2 dc2 pm2 an2 cd2 ct2), f3, (PySem.W.fnOf "_law_name" "_law_name" (defArgs s__law_name) (defBody s__law_name) (defScope s__law_name) .none kV3 dc3 pm3 an3 cd3 ct3), f4, (PySem.W.fnOf "_law_property" "_law_property" (defArgs s__law_property) (defBody s__law_property) (defScope s__law_property) .none kV4 dc4 pm4 an4 cd4 ct4), f5, (PySem.W.fnOf "_law_twice" "_law_twice" (defArgs s__law_twice) (defBody s__law_twice) (defScope s__law_twice) .none kV5 dc5 pm5 an5 cd5 ct5), f6, (PySem.W.fnOf "_law_styles" "_law_styles" (defArgs s__law_styles) (defBody s__law_styles) (defScope s__law_styles) .none kV6 dc6 pm6 an6 cd6 ct6), f7, (PySem.W.fnOf "_law_book" "_law_book" (defArgs s__law_book) (defBody s__law_book) (defScope s__law_book) .none kV7 dc7 pm7 an7 cd7 ct7), f8, (PySem.W.fnOf "spend" "spend" (defArgs s_spend) (defBody s_spend) (defScope s_spend) .none kV8 dc8 pm8 an8 cd8 ct8), f9, (PySem.W.fnOf "find" "find" (defArgs s_find) (defBody s_find) (defScope s_find) .none kV9 dc9 pm9 an9 cd9 ct9), f10, (PySem.W.fnOf "follow" "follow" (defArgs s_follow) (defBody s_follow) (defScope s_follow) .none kV10 dc10 pm10 an10 cd10 ct10), f11, (PySem.W.fnOf "look" "look" (defArgs s_look) (defBody s_look) (defScope s_look) .none kV11 dc11 pm11 an11 cd11 ct11), f12, (PySem.W.fnOf "get" "get" (defArgs s_get) (defBody s_get) (defScope s_get) .none kV12 dc12 pm12 an12 cd12 ct12), f13, (PySem.W.fnOf "key" "key" (defArgs s_key) (defBody s_key) (defScope s_key) .none kV13 dc13 pm13 an13 cd13 ct13), f14, (PySem.W.fnOf "root_of" "root_of" (defArgs s_root_of) (defBody s_root_of) (defScope s_root_of) .none kV14 dc14 pm14 an14 cd14 ct14), f15, (PySem.W.fnOf "key_of_bytes" "key_of_bytes" (defArgs s_key_of_bytes) (defBody s_key_of_bytes) (defScope s_key_of_bytes) .none kV15 dc15 pm15 an15 cd15 ct15), f16, (PySem.W.fnOf "data_of" "data_of" (defArgs s_data_of) (defBody s_data_of) (defScope s_data_of) .none kV16 dc16 pm16 an16 cd16 ct16), f17, (PySem.W.fnOf "style_dicts" "style_dicts" (defArgs s_style_dicts) (defBody s_style_dicts) (defScope s_style_dicts) .none kV17 dc17 pm17 an17 cd17 ct17), f18, (PySem.W.fnOf "first_integer" "first_integer" (defArgs s_first_integer) (defBody s_first_integer) (defScope s_first_integer) .none kV18 dc18 pm18 an18 cd18 ct18), f19, (PySem.W.fnOf "first_name" "first_name" (defArgs s_first_name) (defBody s_first_name) (defScope s_first_name) .none kV19 dc19 pm19 an19 cd19 ct19), f20, (PySem.W.fnOf "number_of" "number_of" (defArgs s_number_of) (defBody s_number_of) (defScope s_number_of) .none kV20 dc20 pm20 an20 cd20 ct20), f21, (PySem.W.fnOf "bounded" "bounded" (defArgs s_bounded) (defBody s_bounded) (defScope s_bounded) .none kV21 dc21 pm21 an21 cd21 ct21), f22, (PySem.W.fnOf "codes" "codes" (defArgs s_codes) (defBody s_codes) (defScope s_codes) .none kV22 dc22 pm22 an22 cd22 ct22), f23, (PySem.W.fnOf "style_of" "style_of" (defArgs s_style_of) (defBody s_style_of) (defScope s_style_of) .none kV23 dc23 pm23 an23 cd23 ct23), f24, (PySem.W.fnOf "colour_of" "colour_of" (defArgs s_colour_of) (defBody s_colour_of) (defScope s_colour_of) .none kV24 dc24 pm24 an24 cd24 ct24), f25, (PySem.W.fnOf "_law_look" "_law_look" (defArgs s__law_look) (defBody s__law_look) (defScope s__law_look) .none kV25 dc25 pm25 an25 cd25 ct25), f26, (PySem.W.fnOf "_law_get" "_law_get" (defArgs s__law_get) (defBody s__law_get) (defScope s__law_get) .none kV26 dc26 pm26 an26 cd26 ct26), f27, (PySem.W.fnOf "_law_chain" "_law_chain" (defArgs s__law_chain) (defBody s__law_chain) (defScope s__law_chain) .none kV27 dc27 pm27 an27 cd27 ct27), f28, (PySem.W.fnOf "_law_first" "_law_first" (defArgs s__law_first) (defBody s__law_first) (defScope s__law_first) .none kV28 dc28 pm28 an28 cd28 ct28), f29, (PySem.W.fnOf "_law_or" "_law_or" (defArgs s__law_or) (defBody s__law_or) (defScope s__law_or) .none kV29 dc29 pm29 an29 cd29 ct29), f30, (PySem.W.fnOf "_law_near" "_law_near" (defArgs s__law_near) (defBody s__law_near) (defScope s__law_near) .none kV30 dc30 pm30 an30 cd30 ct30), f31, (PySem.W.fnOf "_law_align" "_law_align" (defArgs s__law_align) (defBody s__law_align) (defScope s__law_align) .none kV31 dc31 pm31 an31 cd31 ct31), f32, (PySem.W.fnOf "_law_due" "_law_due" (defArgs s__law_due) (defBody s__law_due) (defScope s__law_due) .none kV32 dc32 pm32 an32 cd32 ct32), fa, (PySem.W.fnOf "law" "law" (defArgs s_law) (defBody s_law) (defScope s_law) .none kV33 dc33 pm33 an33 cd33 ct33)⟩ := {
    f__law_codes := F0, m__law_codes := PySem.W.mg_of X G a0, i__law_codes := B0,
    f__law_dict := F1, m__law_dict := PySem.W.mg_of X G a1, i__law_dict := B1,
    f__law_cell := F2, m__law_cell := PySem.W.mg_of X G a2, i__law_cell := B2,
    f__law_name := F3, m__law_name := PySem.W.mg_of X G a3, i__law_name := B3,
    f__law_property := F4, m__law_property := PySem.W.mg_of X G a4, i__law_property := B4,
    f__law_twice := F5, m__law_twice := PySem.W.mg_of X G a5, i__law_twice := B5,
    f__law_styles := F6, m__law_styles := PySem.W.mg_of X G a6, i__law_styles := B6,
    f__law_book := F7, m__law_book := PySem.W.mg_of X G a7, i__law_book := B7,
    f_spend := F8, m_spend := PySem.W.mg_of X G a8, i_spend := B8,
    f_find := F9, m_find := PySem.W.mg_of X G a9, i_find := B9,
    f_follow := F10, m_follow := PySem.W.mg_of X G a10, i_follow := B10,
    f_look := F11, m_look := PySem.W.mg_of X G a11, i_look := B11,
    f_get := F12, m_get := PySem.W.mg_of X G a12, i_get := B12,
    f_key := F13, m_key := PySem.W.mg_of X G a13, i_key := B13,
    f_root_of := F14, m_root_of := PySem.W.mg_of X G a14, i_root_of := B14,
    f_key_of_bytes := F15, m_key_of_bytes := PySem.W.mg_of X G a15, i_key_of_bytes := B15,
    f_data_of := F16, m_data_of := PySem.W.mg_of X G a16, i_data_of := B16,
    f_style_dicts := F17, m_style_dicts := PySem.W.mg_of X G a17, i_style_dicts := B17,
    f_first_integer := F18, m_first_integer := PySem.W.mg_of X G a18, i_first_integer := B18,
    f_first_name := F19, m_first_name := PySem.W.mg_of X G a19, i_first_name := B19,
    f_number_of := F20, m_number_of := PySem.W.mg_of X G a20, i_number_of := B20,
    f_bounded := F21, m_bounded := PySem.W.mg_of X G a21, i_bounded := B21,
    f_codes := F22, m_codes := PySem.W.mg_of X G a22, i_codes := B22,
    f_style_of := F23, m_style_of := PySem.W.mg_of X G a23, i_style_of := B23,
    f_colour_of := F24, m_colour_of := PySem.W.mg_of X G a24, i_colour_of := B24,
    f__law_look := F25, m__law_look := PySem.W.mg_of X G a25, i__law_look := B25,
    f__law_get := F26, m__law_get := PySem.W.mg_of X G a26, i__law_get := B26,
    f__law_chain := F27, m__law_chain := PySem.W.mg_of X G a27, i__law_chain := B27,
    f__law_first := F28, m__law_first := PySem.W.mg_of X G a28, i__law_first := B28,
    f__law_or := F29, m__law_or := PySem.W.mg_of X G a29, i__law_or := B29,
    f__law_near := F30, m__law_near := PySem.W.mg_of X G a30, i__law_near := B30,
    f__law_align := F31, m__law_align := PySem.W.mg_of X G a31, i__law_align := B31,
    f__law_due := F32, m__law_due := PySem.W.mg_of X G a32, i__law_due := B32,
    f_law := F33, m_law := PySem.W.mg_of X G a33, i_law := B33,
    z_abs := PySem.W.mg_none_of X G z_abs,
    z_int := PySem.W.mg_none_of X G z_int,
    z_isinstance := PySem.W.mg_none_of X G z_isinstance,
    z_len := PySem.W.mg_none_of X G z_len,
    z_max := PySem.W.mg_none_of X G z_max,
    z_min := PySem.W.mg_none_of X G z_min,
    z_ord := PySem.W.mg_none_of X G z_ord,
    z_range := PySem.W.mg_none_of X G z_range,
    z_str := PySem.W.mg_none_of X G z_str,
    z_tuple := PySem.W.mg_none_of X G z_tuple,
    g_ALIGNS := glob_rv (PySem.W.mg_of X G g_ALIGNS) (rv_tup g0_ALIGNS (by simp) (rvL_cons (rv_str) (rvL_cons (rv_str) (rvL_cons (rv_str) (rvL_nil))))),
    g_ENOUGH := glob_int (PySem.W.mg_of X G g_ENOUGH),
    g_MOST_STEPS := glob_int (PySem.W.mg_of X G g_MOST_STEPS),
    g_MOST_STYLES := glob_int (PySem.W.mg_of X G g_MOST_STYLES),
    g_NONE := glob_rv (PySem.W.mg_of X G g_NONE) (rv_tup g0_NONE (by simp) (rvL_cons (rv_str) (rvL_nil))),
    g_WHITEST := glob_int (PySem.W.mg_of X G g_WHITEST) }
  exact ⟨_, fun s v => .of_eq rfl, fun base _ _ => end_ok T⟩
end
end K45
open PySem PySem.W PyProof.Rows in
set_option maxHeartbeats 0 in
set_option maxRecDepth 100000 in
theorem PySem.Challenge.cw_stillroom_k45_styles_holds : PySem.Challenge.rw_stillroom_k45_styles.Holds := by
  w_on; o_law; k_head; (case hw => w_witness2)
  k_fill
  refine L2.walk_of (l := PySem.Challenge.rw_stillroom_k45_styles) (n := 63) (k := 7) (x := "_law_script") (CX := fun w => L2.CX PySem.Challenge.rw_stillroom_k45_styles.prog w) (sp := fun w => Dv.spLaw _) rfl (by decide) rfl ⟨rfl, by decide, by decide⟩ (fun w h Y => PySem.W.kIn_of Y) ?F (fun _ _ a ns hl _ hS => ⟨a, ns, rfl, hS, hl, fun _ => rfl⟩) (fun _ _ _ _ _ z => Dv.cx_no z)
  case F =>
    intro w mg fa h KX G hmg
    refine' K45.all_mk KX G hmg ?a0 ?l0 ?c0 ?k0 ?a1 ?l1 ?c1 ?k1 ?a2 ?l2 ?c2 ?k2 ?a3 ?l3 ?c3 ?k3 ?a4 ?l4 ?c4 ?k4 ?a5 ?l5 ?c5 ?k5 ?a6 ?l6 ?c6 ?k6 ?a7 ?l7 ?c7 ?k7 ?a8 ?l8 ?c8 ?k8 ?a9 ?l9 ?c9 ?k9 ?a10 ?l10 ?c10 ?k10 ?a11 ?l11 ?c11 ?k11 ?a12 ?l12 ?c12 ?k12 ?a13 ?l13 ?c13 ?k13 ?a14 ?l14 ?c14 ?k14 ?a15 ?l15 ?c15 ?k15 ?a16 ?l16 ?c16 ?k16 ?a17 ?l17 ?c17 ?k17 ?a18 ?l18 ?c18 ?k18 ?a19 ?l19 ?c19 ?k19 ?a20 ?l20 ?c20 ?k20 ?a21 ?l21 ?c21 ?k21 ?a22 ?l22 ?c22 ?k22 ?a23 ?l23 ?c23 ?k23 ?a24 ?l24 ?c24 ?k24 ?a25 ?l25 ?c25 ?k25 ?a26 ?l26 ?c26 ?k26 ?a27 ?l27 ?c27 ?k27 ?a28 ?l28 ?c28 ?k28 ?a29 ?l29 ?c29 ?k29 ?a30 ?l30 ?c30 ?k30 ?a31 ?l31 ?c31 ?k31 ?a32 ?l32 ?c32 ?k32 ?a33 ?l33 ?c33 ?k33 ?z_abs ?z_int ?z_isinstance ?z_len ?z_max ?z_min ?z_ord ?z_range ?z_str ?z_tuple ?g_ALIGNS ?g0_ALIGNS ?g_ENOUGH ?g_MOST_STEPS ?g_MOST_STYLES ?g_NONE ?g0_NONE ?g_WHITEST
    (case a0 => k_is)
    (case l0 => k_is)
    (case c0 => k_is)
    (case k0 => k_is)
    (case a1 => k_is)
    (case l1 => k_is)
    (case c1 => k_is)
    (case k1 => k_is)
    (case a2 => k_is)
    (case l2 => k_is)
    (case c2 => k_is)
    (case k2 => k_is)
    (case a3 => k_is)
    (case l3 => k_is)
    (case c3 => k_is)
    (case k3 => k_is)
    (case a4 => k_is)
    (case l4 => k_is)
    (case c4 => k_is)
    (case k4 => k_is)
    (case a5 => k_is)
    (case l5 => k_is)
    (case c5 => k_is)
    (case k5 => k_is)
    (case a6 => k_is)
    (case l6 => k_is)
    (case c6 => k_is)
    (case k6 => k_is)
    (case a7 => k_is)
    (case l7 => k_is)
    (case c7 => k_is)
    (case k7 => k_is)
    (case a8 => k_is)
    (case l8 => k_is)
    (case c8 => k_is)
    (case k8 => k_is)
    (case a9 => k_is)
    (case l9 => k_is)
    (case c9 => k_is)
    (case k9 => k_is)
    (case a10 => k_is)
    (case l10 => k_is)
    (case c10 => k_is)
    (case k10 => k_is)
    (case a11 => k_is)
    (case l11 => k_is)
    (case c11 => k_is)
    (case k11 => k_is)
    (case a12 => k_is)
    (case l12 => k_is)
    (case c12 => k_is)
    (case k12 => k_is)
    (case a13 => k_is)
    (case l13 => k_is)
    (case c13 => k_is)
    (case k13 => k_is)
    (case a14 => k_is)
    (case l14 => k_is)
    (case c14 => k_is)
    (case k14 => k_is)
    (case a15 => k_is)
    (case l15 => k_is)
    (case c15 => k_is)
    (case k15 => k_is)
    (case a16 => k_is)
    (case l16 => k_is)
    (case c16 => k_is)
    (case k16 => k_is)
    (case a17 => k_is)
    (case l17 => k_is)
    (case c17 => k_is)
    (case k17 => k_is)
    (case a18 => k_is)
    (case l18 => k_is)
    (case c18 => k_is)
    (case k18 => k_is)
    (case a19 => k_is)
    (case l19 => k_is)
    (case c19 => k_is)
    (case k19 => k_is)
    (case a20 => k_is)
    (case l20 => k_is)
    (case c20 => k_is)
    (case k20 => k_is)
    (case a21 => k_is)
    (case l21 => k_is)
    (case c21 => k_is)
    (case k21 => k_is)
    (case a22 => k_is)
    (case l22 => k_is)
    (case c22 => k_is)
    (case k22 => k_is)
    (case a23 => k_is)
    (case l23 => k_is)
    (case c23 => k_is)
    (case k23 => k_is)
    (case a24 => k_is)
    (case l24 => k_is)
    (case c24 => k_is)
    (case k24 => k_is)
    (case a25 => k_is)
    (case l25 => k_is)
    (case c25 => k_is)
    (case k25 => k_is)
    (case a26 => k_is)
    (case l26 => k_is)
    (case c26 => k_is)
    (case k26 => k_is)
    (case a27 => k_is)
    (case l27 => k_is)
    (case c27 => k_is)
    (case k27 => k_is)
    (case a28 => k_is)
    (case l28 => k_is)
    (case c28 => k_is)
    (case k28 => k_is)
    (case a29 => k_is)
    (case l29 => k_is)
    (case c29 => k_is)
    (case k29 => k_is)
    (case a30 => k_is)
    (case l30 => k_is)
    (case c30 => k_is)
    (case k30 => k_is)
    (case a31 => k_is)
    (case l31 => k_is)
    (case c31 => k_is)
    (case k31 => k_is)
    (case a32 => k_is)
    (case l32 => k_is)
    (case c32 => k_is)
    (case k32 => k_is)
    (case a33 => k_is)
    (case l33 => k_is)
    (case c33 => k_is)
    (case k33 => k_is)
    (case z_abs => k_is)
    (case z_int => k_is)
    (case z_isinstance => k_is)
    (case z_len => k_is)
    (case z_max => k_is)
    (case z_min => k_is)
    (case z_ord => k_is)
    (case z_range => k_is)
    (case z_str => k_is)
    (case z_tuple => k_is)
    (case g_ALIGNS => k_is)
    (case g0_ALIGNS => k_is)
    (case g_ENOUGH => k_is)
    (case g_MOST_STEPS => k_is)
    (case g_MOST_STYLES => k_is)
    (case g_NONE => k_is)
    (case g0_NONE => k_is)
    (case g_WHITEST => k_is)
#print axioms PySem.Challenge.cw_stillroom_k45_styles_holds
