import PyProof.Rows.All
import Wide.All
import OpenK.AllK
import Wide.FinOn
import HandS.ForMost
import HandS.Exc
import HandS.ExcOwn
import HandS.WordsExc
import HandS.CallSlots
import HandS.TupAny
import HandS.Star
import HandS.IsInst
import HandS.Flow
import HandS.Deep
import HandS.Wide
import HandS.TupLe
import HandS.Rev
import HandS.RevRange
import HandS.Zip
import HandS.SortInts
import HandS.Strs
import PyProof.FString3
import HandS.FStr
import PyProof.Rows.StrIntSpec
import PySem.Challenge.RW_stillroom_k71_sound_facts
set_option Elab.async false
set_option linter.all false
section
set_option maxRecDepth 100000
set_option maxHeartbeats 1000000
namespace Dv
open PySem PySem.Spec PyProof.Rows L2

/-- a value as plain data; lists and dicts carry whether they are owned (may be changed) -/
inductive D where
  | non | bl (b : Bool) | int (i : Int) | str (x : Str)
  | tup (xs : List D)
  | lst (o : Bool) (xs : List D)
  | scr (xs : List D)
  | dic (o : Bool) (ks : List Key) (xs : List D)
  | dit (o : Bool) (ks : List (List Key)) (xs : List D)
  | ins (c : Nat) (fs : List Str) (xs : List D)

mutual
def D.pure : D → Bool
  | .non => true | .bl _ => true | .int _ => true | .str _ => true
  | .tup xs => D.pureL xs
  | .lst o xs => !o && D.pureL xs
  | .scr xs => D.pureL xs
  | .dic o _ xs => !o && D.pureL xs
  | .dit o _ xs => !o && D.pureL xs
  | .ins _ _ _ => false
def D.pureL : List D → Bool
  | [] => true
  | x :: xs => x.pure && D.pureL xs
end
mutual
/-- frozen: nothing is owned any more (instances stay) -/
def D.frz : D → D
  | .non => .non | .bl b => .bl b | .int i => .int i | .str x => .str x
  | .tup xs => .tup (D.frzL xs)
  | .lst _ xs => .lst false (D.frzL xs)
  | .scr xs => .scr (D.frzL xs)
  | .dic _ ks xs => .dic false ks (D.frzL xs)
  | .dit _ ks xs => .dit false ks (D.frzL xs)
  | .ins c fs xs => .ins c fs xs
def D.frzL : List D → List D
  | [] => []
  | x :: xs => x.frz :: D.frzL xs
end
mutual
/-- may be frozen: no instance in it -/
def D.cold : D → Bool
  | .non => true | .bl _ => true | .int _ => true | .str _ => true
  | .tup xs => D.coldL xs
  | .lst _ xs => D.coldL xs
  | .scr xs => D.coldL xs
  | .dic _ _ xs => D.coldL xs
  | .dit _ _ xs => D.coldL xs
  | .ins _ _ _ => false
def D.coldL : List D → Bool
  | [] => true
  | x :: xs => x.cold && D.coldL xs
end
mutual
/-- no frozen list or dict in it: it can't share a list with anything -/
def D.noFz : D → Bool
  | .non => true | .bl _ => true | .int _ => true | .str _ => true
  | .tup xs => D.noFzL xs
  | .lst o xs => o && D.noFzL xs
  | .scr xs => false
  | .dic o _ xs => o && D.noFzL xs
  | .dit o _ xs => o && D.noFzL xs
  | .ins _ _ xs => D.noFzL xs
def D.noFzL : List D → Bool
  | [] => true
  | x :: xs => x.noFz && D.noFzL xs
end

/-- what a def's proof is written over: the written part, the classes' addresses -/
structure Kx where
  K : PySem.W.Frag
  cm : Nat → Addr

mutual
/-- the value v stands for the data d: what is frozen lies in HF, what is owned in H at the addresses A -/
def Rp (k : Kx) (HF H : Hp) : D → V → List Addr → Prop
  | .non, v, A => v = .non ∧ A = []
  | .bl b, v, A => v = .bl b ∧ A = []
  | .int i, v, A => v = .int i ∧ A = []
  | .str x, v, A => v = .str x ∧ A = []
  | .tup ds, v, A => ∃ a xs, v = .ref a ∧ SqT k.K HF a xs ∧ RpL k HF H ds xs A
  | .lst o ds, v, A => ∃ a xs B, v = .ref a ∧ RpL k HF H ds xs B ∧
      (o = false → HF a = some (.lst xs) ∧ A = [] ∧ B = []) ∧ (o = true → A = a :: B ∧ HF a = none ∧ H a = some (.lst xs))
  | .scr ds, v, A => ∃ a xs, v = .ref a ∧ A = [] ∧ SqL k.K HF a xs ∧ RpL k HF H ds xs []
  | .dic o ks ds, v, A => ∃ a xs B, v = .ref a ∧ ks.length = xs.length ∧ RpL k HF H ds xs B ∧
      (o = false → HF a = some (.dK (ks.zip xs)) ∧ A = [] ∧ B = []) ∧ (o = true → A = a :: B ∧ HF a = none ∧ H a = some (.dK (ks.zip xs)))
  | .dit o ks ds, v, A => ∃ a xs B, v = .ref a ∧ ks.length = xs.length ∧ RpL k HF H ds xs B ∧
      (o = false → HF a = some (.dT (ks.zip xs)) ∧ A = [] ∧ B = []) ∧ (o = true → A = a :: B ∧ HF a = none ∧ H a = some (.dT (ks.zip xs)))
  | .ins c fs ds, v, A => ∃ a dx xs B, v = .ref a ∧ fs.length = xs.length ∧ RpL k HF H ds xs B ∧ A = a :: B ∧ HF a = none ∧ H a = some (.ins (k.cm c) dx (fs.zip xs))
def RpL (k : Kx) (HF H : Hp) : List D → List V → List Addr → Prop
  | [], xs, A => xs = [] ∧ A = []
  | d :: ds, xs, A => ∃ v vs B C, xs = v :: vs ∧ A = B ++ C ∧ Rp k HF H d v B ∧ RpL k HF H ds vs C
end

def Ex (H H' : Hp) : Prop := ∀ a o, H a = some o → H' a = some o
theorem Ex.refl (H : Hp) : Ex H H := fun _ _ h => h
theorem Ex.trans {H H1 H2 : Hp} (a : Ex H H1) (b : Ex H1 H2) : Ex H H2 := fun x o h => b x o (a x o h)
theorem Ex.new {H : Hp} {p : Addr} {o : HO} (h : H p = none) : Ex H (upd H p o) := fun a u e => by
  rw [upd_ne (ne_of_none e h)]
  exact e
theorem ex_rd {H H' : Hp} {a : Addr} {u : HO} (e : Ex H H') (h : Rd H a u) : Rd H' a u := by
  rcases h with h | ⟨o, h⟩
  · exact Or.inl (e a _ h)
  · exact Or.inr ⟨o, e a _ h⟩
theorem ex_l {K : PySem.W.Frag} {H H' : Hp} {a : Addr} {xs : List V} (e : Ex H H') (h : SqL K H a xs) : SqL K H' a xs := by
  rcases h with h | h
  · exact Or.inl (ex_rd e h)
  · exact Or.inr h
theorem ex_t {K : PySem.W.Frag} {H H' : Hp} {a : Addr} {xs : List V} (e : Ex H H') (h : SqT K H a xs) : SqT K H' a xs := by
  rcases h with h | h
  · exact Or.inl (ex_rd e h)
  · exact Or.inr h

/-- a step of a pure evaluation -/
structure Tr (HF H HF' H' : Hp) : Prop where
  ff : Ex HF HF'
  hh : Ex H H'
  fh : Ex HF' H'
  no : ∀ a, HF a = none → H a ≠ none → HF' a = none
theorem Tr.refl {HF H : Hp} (h : Ex HF H) : Tr HF H HF H := ⟨.refl _, .refl _, h, fun _ e _ => e⟩
theorem Tr.trans {F H F1 H1 F2 H2 : Hp} (a : Tr F H F1 H1) (b : Tr F1 H1 F2 H2) : Tr F H F2 H2 :=
  ⟨a.ff.trans b.ff, a.hh.trans b.hh, b.fh, fun x e n => b.no x (a.no x e n) fun z => by
    cases q : H x with
    | none => exact n q
    | some o => rw [a.hh x o q] at z; cases z⟩

section
variable {k : Kx} {F H F' H' : Hp}
mutual
theorem Rp.mono (ff : Ex F F') : ∀ (d : D) (v : V) (A : List Addr), (∀ a ∈ A, ∀ o, H a = some o → F a = none → H' a = some o ∧ F' a = none) → Rp k F H d v A → Rp k F' H' d v A
  | .non, _, _, _, h => h
  | .bl _, _, _, _, h => h
  | .int _, _, _, _, h => h
  | .str _, _, _, _, h => h
  | .tup ds, v, A, n, h => by
    obtain ⟨a, xs, e, s, r⟩ := h
    exact ⟨a, xs, e, ex_t ff s, RpL.mono ff ds xs A n r⟩
  | .lst o ds, v, A, n, h => by
    obtain ⟨a, xs, B, e, r, h1, h2⟩ := h
    refine ⟨a, xs, B, e, RpL.mono ff ds xs B (fun b hb => n b ?_) r, fun q => ?_, fun q => ?_⟩
    · cases o with
      | false => rw [(h1 rfl).2.2] at hb; cases hb
      | true => rw [(h2 rfl).1]; exact List.mem_cons_of_mem _ hb
    · exact ⟨ff _ _ (h1 q).1, (h1 q).2⟩
    · have := n a (by rw [(h2 q).1]; exact List.mem_cons_self) _ (h2 q).2.2 (h2 q).2.1
      exact ⟨(h2 q).1, this.2, this.1⟩
  | .scr ds, v, A, n, h => by
    obtain ⟨a, xs, e, e2, s, r⟩ := h
    exact ⟨a, xs, e, e2, ex_l ff s, RpL.mono ff ds xs [] (fun _ z => nomatch z) r⟩
  | .dic o ks ds, v, A, n, h => by
    obtain ⟨a, xs, B, e, l, r, h1, h2⟩ := h
    refine ⟨a, xs, B, e, l, RpL.mono ff ds xs B (fun b hb => n b ?_) r, fun q => ?_, fun q => ?_⟩
    · cases o with
      | false => rw [(h1 rfl).2.2] at hb; cases hb
      | true => rw [(h2 rfl).1]; exact List.mem_cons_of_mem _ hb
    · exact ⟨ff _ _ (h1 q).1, (h1 q).2⟩
    · have := n a (by rw [(h2 q).1]; exact List.mem_cons_self) _ (h2 q).2.2 (h2 q).2.1
      exact ⟨(h2 q).1, this.2, this.1⟩
  | .dit o ks ds, v, A, n, h => by
    obtain ⟨a, xs, B, e, l, r, h1, h2⟩ := h
    refine ⟨a, xs, B, e, l, RpL.mono ff ds xs B (fun b hb => n b ?_) r, fun q => ?_, fun q => ?_⟩
    · cases o with
      | false => rw [(h1 rfl).2.2] at hb; cases hb
      | true => rw [(h2 rfl).1]; exact List.mem_cons_of_mem _ hb
    · exact ⟨ff _ _ (h1 q).1, (h1 q).2⟩
    · have := n a (by rw [(h2 q).1]; exact List.mem_cons_self) _ (h2 q).2.2 (h2 q).2.1
      exact ⟨(h2 q).1, this.2, this.1⟩
  | .ins c fs ds, v, A, n, h => by
    obtain ⟨a, dx, xs, B, e, l, r, h1, h2, h3⟩ := h
    have := n a (by rw [h1]; exact List.mem_cons_self) _ h3 h2
    exact ⟨a, dx, xs, B, e, l, RpL.mono ff ds xs B (fun b hb => n b (by rw [h1]; exact List.mem_cons_of_mem _ hb)) r, h1, this.2, this.1⟩
theorem RpL.mono (ff : Ex F F') : ∀ (ds : List D) (vs : List V) (A : List Addr), (∀ a ∈ A, ∀ o, H a = some o → F a = none → H' a = some o ∧ F' a = none) → RpL k F H ds vs A → RpL k F' H' ds vs A
  | [], _, _, _, h => h
  | d :: ds, xs, A, n, h => by
    obtain ⟨v, vs, B, C, e1, e2, h1, h2⟩ := h
    refine ⟨v, vs, B, C, e1, e2, Rp.mono ff d v B (fun a ha => n a ?_) h1, RpL.mono ff ds vs C (fun a ha => n a ?_) h2⟩
    · rw [e2]; exact List.mem_append_left _ ha
    · rw [e2]; exact List.mem_append_right _ ha
end
end
end Dv
end
section
set_option maxRecDepth 100000
set_option maxHeartbeats 1000000
namespace Dv
open PySem PySem.Spec PyProof.Rows L2
section
variable {k : Kx} {F H F' H' : Hp}
mutual
/-- what is pure owns nothing -/
theorem Rp.own_nil : ∀ (d : D) (v : V) (A : List Addr), d.pure = true → Rp k F H d v A → A = []
  | .non, _, _, _, h => h.2
  | .bl _, _, _, _, h => h.2
  | .int _, _, _, _, h => h.2
  | .str _, _, _, _, h => h.2
  | .tup ds, v, A, p, h => by
    obtain ⟨a, xs, e, s, r⟩ := h
    exact RpL.own_nil ds xs A p r
  | .lst o ds, v, A, p, h => by
    obtain ⟨a, xs, B, e, r, h1, h2⟩ := h
    cases o with
    | false => exact (h1 rfl).2.1
    | true => exact absurd p (by simp [D.pure])
  | .scr ds, v, A, p, h => by
    obtain ⟨a, xs, e, e2, s, r⟩ := h
    exact e2
  | .dic o ks ds, v, A, p, h => by
    obtain ⟨a, xs, B, e, l, r, h1, h2⟩ := h
    cases o with
    | false => exact (h1 rfl).2.1
    | true => exact absurd p (by simp [D.pure])
  | .dit o ks ds, v, A, p, h => by
    obtain ⟨a, xs, B, e, l, r, h1, h2⟩ := h
    cases o with
    | false => exact (h1 rfl).2.1
    | true => exact absurd p (by simp [D.pure])
  | .ins _ _ _, _, _, p, _ => absurd p (by simp [D.pure])
theorem RpL.own_nil : ∀ (ds : List D) (vs : List V) (A : List Addr), D.pureL ds = true → RpL k F H ds vs A → A = []
  | [], _, _, _, h => h.2
  | d :: ds, xs, A, p, h => by
    obtain ⟨v, vs, B, C, e1, e2, h1, h2⟩ := h
    have p' : d.pure = true ∧ D.pureL ds = true := by simpa [D.pureL] using p
    rw [e2, Rp.own_nil d v B p'.1 h1, RpL.own_nil ds vs C p'.2 h2]
    rfl
end
/-- what is pure stands on the frozen part alone -/
theorem Rp.pure {d : D} {v : V} {A : List Addr} (p : d.pure = true) (ff : Ex F F') (h : Rp k F H d v A) : Rp k F' H' d v [] := by
  have e := Rp.own_nil d v A p h
  subst e
  exact Rp.mono ff d v [] (fun _ z => nomatch z) h
theorem RpL.pure {ds : List D} {vs : List V} {A : List Addr} (p : D.pureL ds = true) (ff : Ex F F') (h : RpL k F H ds vs A) : RpL k F' H' ds vs [] := by
  have e := RpL.own_nil ds vs A p h
  subst e
  exact RpL.mono ff ds vs [] (fun _ z => nomatch z) h
mutual
/-- the owned addresses stand in H and not in F -/
theorem Rp.dom : ∀ (d : D) (v : V) (A : List Addr), Rp k F H d v A → ∀ a ∈ A, F a = none ∧ ∃ o, H a = some o ∧ (∀ xs, o ≠ .tup xs) ∧ ∀ ob u, o ≠ .frz ob u
  | .non, _, _, h => by rw [h.2]; exact fun _ z => nomatch z
  | .bl _, _, _, h => by rw [h.2]; exact fun _ z => nomatch z
  | .int _, _, _, h => by rw [h.2]; exact fun _ z => nomatch z
  | .str _, _, _, h => by rw [h.2]; exact fun _ z => nomatch z
  | .tup ds, v, A, h => by
    obtain ⟨a, xs, e, s, r⟩ := h
    exact RpL.dom ds xs A r
  | .lst o ds, v, A, h => by
    obtain ⟨a, xs, B, e, r, h1, h2⟩ := h
    cases o with
    | false => rw [(h1 rfl).2.1]; exact fun _ z => nomatch z
    | true =>
      rw [(h2 rfl).1]
      intro b hb
      rcases List.mem_cons.mp hb with rfl | hb
      · exact ⟨(h2 rfl).2.1, _, (h2 rfl).2.2, (fun _ z => nomatch z), (fun _ _ z => nomatch z)⟩
      · exact RpL.dom ds xs B r b hb
  | .scr ds, v, A, h => by
    obtain ⟨a, xs, e, e2, s, r⟩ := h
    rw [e2]; exact fun _ z => nomatch z
  | .dic o ks ds, v, A, h => by
    obtain ⟨a, xs, B, e, l, r, h1, h2⟩ := h
    cases o with
    | false => rw [(h1 rfl).2.1]; exact fun _ z => nomatch z
    | true =>
      rw [(h2 rfl).1]
      intro b hb
      rcases List.mem_cons.mp hb with rfl | hb
      · exact ⟨(h2 rfl).2.1, _, (h2 rfl).2.2, (fun _ z => nomatch z), (fun _ _ z => nomatch z)⟩
      · exact RpL.dom ds xs B r b hb
  | .dit o ks ds, v, A, h => by
    obtain ⟨a, xs, B, e, l, r, h1, h2⟩ := h
    cases o with
    | false => rw [(h1 rfl).2.1]; exact fun _ z => nomatch z
    | true =>
      rw [(h2 rfl).1]
      intro b hb
      rcases List.mem_cons.mp hb with rfl | hb
      · exact ⟨(h2 rfl).2.1, _, (h2 rfl).2.2, (fun _ z => nomatch z), (fun _ _ z => nomatch z)⟩
      · exact RpL.dom ds xs B r b hb
  | .ins c fs ds, v, A, h => by
    obtain ⟨a, dx, xs, B, e, l, r, h1, h2, h3⟩ := h
    rw [h1]
    intro b hb
    rcases List.mem_cons.mp hb with rfl | hb
    · exact ⟨h2, _, h3, (fun _ z => nomatch z), (fun _ _ z => nomatch z)⟩
    · exact RpL.dom ds xs B r b hb
theorem RpL.dom : ∀ (ds : List D) (vs : List V) (A : List Addr), RpL k F H ds vs A → ∀ a ∈ A, F a = none ∧ ∃ o, H a = some o ∧ (∀ xs, o ≠ .tup xs) ∧ ∀ ob u, o ≠ .frz ob u
  | [], _, _, h => by rw [h.2]; exact fun _ z => nomatch z
  | d :: ds, xs, A, h => by
    obtain ⟨v, vs, B, C, e1, e2, h1, h2⟩ := h
    rw [e2]
    intro b hb
    rcases List.mem_append.mp hb with hb | hb
    · exact Rp.dom d v B h1 b hb
    · exact RpL.dom ds vs C h2 b hb
end
/-- the frozen part with A's objects -/
def fz (F H : Hp) (A : List Addr) : Hp := fun a => if a ∈ A then H a else F a
theorem fz_in {A : List Addr} {a : Addr} (h : a ∈ A) : fz F H A a = H a := if_pos h
theorem fz_out {A : List Addr} {a : Addr} (h : a ∉ A) : fz F H A a = F a := if_neg h
theorem fz_ex {A : List Addr} (h : ∀ a ∈ A, F a = none) : Ex F (fz F H A) := fun a o e => by
  rw [fz_out fun z => by rw [h a z] at e; cases e]
  exact e
theorem fz_exH {A : List Addr} (h : Ex F H) : Ex (fz F H A) H := fun a o e => by
  by_cases q : a ∈ A
  · rw [fz_in q] at e; exact e
  · rw [fz_out q] at e; exact h a o e
mutual
theorem Rp.frz {A0 : List Addr} (n : ∀ a ∈ A0, F a = none) : ∀ (d : D) (v : V) (A : List Addr), d.cold = true → (∀ a ∈ A, a ∈ A0) → Rp k F H d v A → Rp k (fz F H A0) H' d.frz v []
  | .non, _, _, _, _, h => ⟨h.1, rfl⟩
  | .bl _, _, _, _, _, h => ⟨h.1, rfl⟩
  | .int _, _, _, _, _, h => ⟨h.1, rfl⟩
  | .str _, _, _, _, _, h => ⟨h.1, rfl⟩
  | .tup ds, v, A, c, m, h => by
    obtain ⟨a, xs, e, s, r⟩ := h
    exact ⟨a, xs, e, ex_t (fz_ex n) s, RpL.frz n ds xs A c m r⟩
  | .lst o ds, v, A, c, m, h => by
    obtain ⟨a, xs, B, e, r, h1, h2⟩ := h
    cases o with
    | false => exact ⟨a, xs, [], e, RpL.frz n ds xs B c (by rw [(h1 rfl).2.2]; exact fun _ z => nomatch z) r, fun _ => ⟨fz_ex n _ _ (h1 rfl).1, rfl, rfl⟩, (fun z => nomatch z)⟩
    | true =>
      have e1 := (h2 rfl).1
      refine ⟨a, xs, [], e, RpL.frz n ds xs B c (fun b hb => m b (by rw [e1]; exact List.mem_cons_of_mem _ hb)) r, fun _ => ⟨?_, rfl, rfl⟩, (fun z => nomatch z)⟩
      rw [fz_in (m a (by rw [e1]; exact List.mem_cons_self))]
      exact (h2 rfl).2.2
  | .scr ds, v, A, c, m, h => by
    obtain ⟨a, xs, e, e2, s, r⟩ := h
    exact ⟨a, xs, e, rfl, ex_l (fz_ex n) s, RpL.frz n ds xs [] c (fun _ z => nomatch z) r⟩
  | .dic o ks ds, v, A, c, m, h => by
    obtain ⟨a, xs, B, e, l, r, h1, h2⟩ := h
    cases o with
    | false => exact ⟨a, xs, [], e, l, RpL.frz n ds xs B c (by rw [(h1 rfl).2.2]; exact fun _ z => nomatch z) r, fun _ => ⟨fz_ex n _ _ (h1 rfl).1, rfl, rfl⟩, (fun z => nomatch z)⟩
    | true =>
      have e1 := (h2 rfl).1
      refine ⟨a, xs, [], e, l, RpL.frz n ds xs B c (fun b hb => m b (by rw [e1]; exact List.mem_cons_of_mem _ hb)) r, fun _ => ⟨?_, rfl, rfl⟩, (fun z => nomatch z)⟩
      rw [fz_in (m a (by rw [e1]; exact List.mem_cons_self))]
      exact (h2 rfl).2.2
  | .dit o ks ds, v, A, c, m, h => by
    obtain ⟨a, xs, B, e, l, r, h1, h2⟩ := h
    cases o with
    | false => exact ⟨a, xs, [], e, l, RpL.frz n ds xs B c (by rw [(h1 rfl).2.2]; exact fun _ z => nomatch z) r, fun _ => ⟨fz_ex n _ _ (h1 rfl).1, rfl, rfl⟩, (fun z => nomatch z)⟩
    | true =>
      have e1 := (h2 rfl).1
      refine ⟨a, xs, [], e, l, RpL.frz n ds xs B c (fun b hb => m b (by rw [e1]; exact List.mem_cons_of_mem _ hb)) r, fun _ => ⟨?_, rfl, rfl⟩, (fun z => nomatch z)⟩
      rw [fz_in (m a (by rw [e1]; exact List.mem_cons_self))]
      exact (h2 rfl).2.2
  | .ins _ _ _, _, _, c, _, _ => absurd c (by simp [D.cold])
theorem RpL.frz {A0 : List Addr} (n : ∀ a ∈ A0, F a = none) : ∀ (ds : List D) (vs : List V) (A : List Addr), D.coldL ds = true → (∀ a ∈ A, a ∈ A0) → RpL k F H ds vs A → RpL k (fz F H A0) H' (D.frzL ds) vs []
  | [], _, _, _, _, h => ⟨h.1, rfl⟩
  | d :: ds, xs, A, c, m, h => by
    obtain ⟨v, vs, B, C, e1, e2, h1, h2⟩ := h
    have c' : d.cold = true ∧ D.coldL ds = true := by simpa [D.coldL] using c
    exact ⟨v, vs, [], [], e1, rfl, Rp.frz n d v B c'.1 (fun a ha => m a (by rw [e2]; exact List.mem_append_left _ ha)) h1, RpL.frz n ds vs C c'.2 (fun a ha => m a (by rw [e2]; exact List.mem_append_right _ ha)) h2⟩
end
mutual
theorem D.frz_pure : ∀ d : D, d.cold = true → d.frz.pure = true
  | .non, _ => rfl | .bl _, _ => rfl | .int _, _ => rfl | .str _, _ => rfl
  | .tup xs, c => by simpa [D.frz, D.pure] using D.frzL_pure xs c
  | .lst _ xs, c => by simpa [D.frz, D.pure] using D.frzL_pure xs c
  | .scr xs, c => by simpa [D.frz, D.pure] using D.frzL_pure xs c
  | .dic _ _ xs, c => by simpa [D.frz, D.pure] using D.frzL_pure xs c
  | .dit _ _ xs, c => by simpa [D.frz, D.pure] using D.frzL_pure xs c
  | .ins _ _ _, c => absurd c (by simp [D.cold])
theorem D.frzL_pure : ∀ ds : List D, D.coldL ds = true → D.pureL (D.frzL ds) = true
  | [], _ => rfl
  | d :: ds, c => by
    have c' : d.cold = true ∧ D.coldL ds = true := by simpa [D.coldL] using c
    simp [D.frzL, D.pureL, D.frz_pure d c'.1, D.frzL_pure ds c'.2]
end
mutual
theorem D.pure_cold : ∀ d : D, d.pure = true → d.cold = true
  | .non, _ => rfl | .bl _, _ => rfl | .int _, _ => rfl | .str _, _ => rfl
  | .tup xs, c => D.pureL_cold xs c
  | .lst o xs, c => D.pureL_cold xs (by simp [D.pure] at c; exact c.2)
  | .scr xs, c => D.pureL_cold xs c
  | .dic o _ xs, c => D.pureL_cold xs (by simp [D.pure] at c; exact c.2)
  | .dit o _ xs, c => D.pureL_cold xs (by simp [D.pure] at c; exact c.2)
  | .ins _ _ _, c => absurd c (by simp [D.pure])
theorem D.pureL_cold : ∀ ds : List D, D.pureL ds = true → D.coldL ds = true
  | [], _ => rfl
  | d :: ds, c => by
    have c' : d.pure = true ∧ D.pureL ds = true := by simpa [D.pureL] using c
    simp [D.coldL, D.pure_cold d c'.1, D.pureL_cold ds c'.2]
end
mutual
theorem D.pure_frz : ∀ d : D, d.pure = true → d.frz = d
  | .non, _ => rfl | .bl _, _ => rfl | .int _, _ => rfl | .str _, _ => rfl
  | .tup xs, c => by rw [D.frz, D.pureL_frzL xs c]
  | .lst o xs, c => by simp [D.pure] at c; rw [D.frz, D.pureL_frzL xs c.2, c.1]
  | .scr xs, c => by rw [D.frz, D.pureL_frzL xs c]
  | .dic o _ xs, c => by simp [D.pure] at c; rw [D.frz, D.pureL_frzL xs c.2, c.1]
  | .dit o _ xs, c => by simp [D.pure] at c; rw [D.frz, D.pureL_frzL xs c.2, c.1]
  | .ins _ _ _, c => absurd c (by simp [D.pure])
theorem D.pureL_frzL : ∀ ds : List D, D.pureL ds = true → D.frzL ds = ds
  | [], _ => rfl
  | d :: ds, c => by
    have c' : d.pure = true ∧ D.pureL ds = true := by simpa [D.pureL] using c
    rw [D.frzL, D.pure_frz d c'.1, D.pureL_frzL ds c'.2]
end
mutual
/-- without frozen lists: the frozen part may lose addresses of lists and dicts -/
theorem Rp.thin (m : List Addr) (hm : ∀ a ∈ m, ∀ o, F a = some o → (∀ xs, o ≠ .tup xs) ∧ ∀ ob u, o ≠ .frz ob u) : ∀ (d : D) (v : V) (A : List Addr), d.noFz = true → Rp k F H d v A → Rp k (fun a => if a ∈ m then none else F a) H d v A
  | .non, _, _, _, h => h
  | .bl _, _, _, _, h => h
  | .int _, _, _, _, h => h
  | .str _, _, _, _, h => h
  | .tup ds, v, A, p, h => by
    obtain ⟨a, xs, e, s, r⟩ := h
    refine ⟨a, xs, e, ?_, RpL.thin m hm ds xs A p r⟩
    rcases s with (s | ⟨o, s⟩) | s
    · refine .inl (.inl ?_)
      show (if a ∈ m then none else F a) = _
      rw [if_neg fun z => (hm a z _ s).1 _ rfl]
      exact s
    · refine .inl (.inr ⟨o, ?_⟩)
      show (if a ∈ m then none else F a) = _
      rw [if_neg fun z => (hm a z _ s).2 _ _ rfl]
      exact s
    · exact .inr s
  | .lst o ds, v, A, p, h => by
    obtain ⟨a, xs, B, e, r, h1, h2⟩ := h
    cases o with
    | false => exact absurd p (by simp [D.noFz])
    | true =>
      refine ⟨a, xs, B, e, RpL.thin m hm ds xs B (by simpa [D.noFz] using p) r, (fun z => nomatch z), fun _ => ⟨(h2 rfl).1, ?_, (h2 rfl).2.2⟩⟩
      show (if a ∈ m then none else F a) = none
      rw [(h2 rfl).2.1]; split <;> rfl
  | .scr _, _, _, p, _ => absurd p (by simp [D.noFz])
  | .dic o ks ds, v, A, p, h => by
    obtain ⟨a, xs, B, e, l, r, h1, h2⟩ := h
    cases o with
    | false => exact absurd p (by simp [D.noFz])
    | true =>
      refine ⟨a, xs, B, e, l, RpL.thin m hm ds xs B (by simpa [D.noFz] using p) r, (fun z => nomatch z), fun _ => ⟨(h2 rfl).1, ?_, (h2 rfl).2.2⟩⟩
      show (if a ∈ m then none else F a) = none
      rw [(h2 rfl).2.1]; split <;> rfl
  | .dit o ks ds, v, A, p, h => by
    obtain ⟨a, xs, B, e, l, r, h1, h2⟩ := h
    cases o with
    | false => exact absurd p (by simp [D.noFz])
    | true =>
      refine ⟨a, xs, B, e, l, RpL.thin m hm ds xs B (by simpa [D.noFz] using p) r, (fun z => nomatch z), fun _ => ⟨(h2 rfl).1, ?_, (h2 rfl).2.2⟩⟩
      show (if a ∈ m then none else F a) = none
      rw [(h2 rfl).2.1]; split <;> rfl
  | .ins c fs ds, v, A, p, h => by
    obtain ⟨a, dx, xs, B, e, l, r, h1, h2, h3⟩ := h
    refine ⟨a, dx, xs, B, e, l, RpL.thin m hm ds xs B p r, h1, ?_, h3⟩
    show (if a ∈ m then none else F a) = none
    rw [h2]; split <;> rfl
theorem RpL.thin (m : List Addr) (hm : ∀ a ∈ m, ∀ o, F a = some o → (∀ xs, o ≠ .tup xs) ∧ ∀ ob u, o ≠ .frz ob u) : ∀ (ds : List D) (vs : List V) (A : List Addr), D.noFzL ds = true → RpL k F H ds vs A → RpL k (fun a => if a ∈ m then none else F a) H ds vs A
  | [], _, _, _, h => h
  | d :: ds, xs, A, p, h => by
    obtain ⟨v, vs, B, C, e1, e2, h1, h2⟩ := h
    have p' : d.noFz = true ∧ D.noFzL ds = true := by simpa [D.noFzL] using p
    exact ⟨v, vs, B, C, e1, e2, Rp.thin m hm d v B p'.1 h1, RpL.thin m hm ds vs C p'.2 h2⟩
end
/-! lists of data -/
theorem RpL.len : ∀ {ds : List D} {vs : List V} {A : List Addr}, RpL k F H ds vs A → ds.length = vs.length
  | [], _, _, h => by rw [h.1]; rfl
  | d :: ds, xs, A, h => by
    obtain ⟨v, vs, B, C, e1, e2, h1, h2⟩ := h
    rw [e1, List.length_cons, List.length_cons, RpL.len h2]
theorem RpL.get : ∀ {ds : List D} {vs : List V} {A : List Addr} {i : Nat} {d : D}, RpL k F H ds vs A → ds[i]? = some d → ∃ v B, vs[i]? = some v ∧ Rp k F H d v B ∧ ∀ a ∈ B, a ∈ A
  | [], _, _, i, _, _, e => by simp at e
  | d :: ds, xs, A, 0, d', h, e => by
    obtain ⟨v, vs, B, C, e1, e2, h1, h2⟩ := h
    have e' : d = d' := by simpa using e
    subst e'
    exact ⟨v, B, by rw [e1]; rfl, h1, fun a ha => by rw [e2]; exact List.mem_append_left _ ha⟩
  | d :: ds, xs, A, i + 1, d', h, e => by
    obtain ⟨v, vs, B, C, e1, e2, h1, h2⟩ := h
    obtain ⟨w, B', g1, g2, g3⟩ := RpL.get (i := i) h2 (by simpa using e)
    exact ⟨w, B', by rw [e1]; exact g1, g2, fun a ha => by rw [e2]; exact List.mem_append_right _ (g3 a ha)⟩
theorem RpL.append : ∀ {ds es : List D} {vs ws : List V} {A B : List Addr}, RpL k F H ds vs A → RpL k F H es ws B → RpL k F H (ds ++ es) (vs ++ ws) (A ++ B)
  | [], es, vs, ws, A, B, h, h' => by
    rw [h.1, h.2]
    exact h'
  | d :: ds, es, xs, ws, A, B, h, h' => by
    obtain ⟨v, vs, A1, A2, e1, e2, h1, h2⟩ := h
    refine ⟨v, vs ++ ws, A1, A2 ++ B, by rw [e1]; rfl, by rw [e2, List.append_assoc], h1, RpL.append h2 h'⟩
theorem RpL.one {d : D} {v : V} {A : List Addr} (h : Rp k F H d v A) : RpL k F H [d] [v] A := ⟨v, [], A, [], rfl, (List.append_nil A).symm, h, rfl, rfl⟩
theorem RpL.take : ∀ {ds : List D} {vs : List V} (n : Nat), RpL k F H ds vs [] → RpL k F H (ds.take n) (vs.take n) []
  | ds, vs, 0, _ => by
    rw [List.take_zero, List.take_zero]
    exact ⟨rfl, rfl⟩
  | [], vs, n + 1, h => by
    rw [h.1]
    exact ⟨rfl, rfl⟩
  | d :: ds, xs, n + 1, h => by
    obtain ⟨v, vs, A1, A2, e1, e2, h1, h2⟩ := h
    obtain ⟨r1, r2⟩ := List.append_eq_nil_iff.mp e2.symm
    subst r1 r2
    exact ⟨v, vs.take n, [], [], by rw [e1]; rfl, rfl, h1, RpL.take n h2⟩
theorem RpL.drop : ∀ {ds : List D} {vs : List V} (n : Nat), RpL k F H ds vs [] → RpL k F H (ds.drop n) (vs.drop n) []
  | ds, vs, 0, h => h
  | [], vs, n + 1, h => by
    rw [h.1]
    exact ⟨rfl, rfl⟩
  | d :: ds, xs, n + 1, h => by
    obtain ⟨v, vs, A1, A2, e1, e2, h1, h2⟩ := h
    obtain ⟨r1, r2⟩ := List.append_eq_nil_iff.mp e2.symm
    subst r1 r2
    rw [e1]
    exact RpL.drop (vs := vs) n h2
theorem RpL.reverse : ∀ {ds : List D} {vs : List V}, RpL k F H ds vs [] → RpL k F H ds.reverse vs.reverse []
  | [], vs, h => by
    rw [h.1]
    exact ⟨rfl, rfl⟩
  | d :: ds, xs, h => by
    obtain ⟨v, vs, A1, A2, e1, e2, h1, h2⟩ := h
    obtain ⟨r1, r2⟩ := List.append_eq_nil_iff.mp e2.symm
    subst r1 r2
    rw [e1, List.reverse_cons, List.reverse_cons]
    exact RpL.append (RpL.reverse h2) (RpL.one h1)
/-- a place set anew -/
theorem RpL.set : ∀ {ds : List D} {vs : List V} {A : List Addr} {i : Nat} {d : D} {v : V} {B : List Addr}, RpL k F H ds vs A → Rp k F H d v B → i < ds.length → ∃ A1 A2 A3, A = A1 ++ A2 ++ A3 ∧ RpL k F H (ds.set i d) (vs.set i v) (A1 ++ B ++ A3)
  | [], _, _, _, _, _, _, _, _, hi => by simp at hi
  | d0 :: ds, xs, A, 0, d, v, B, h, hd, hi => by
    obtain ⟨w, vs, A1, A2, e1, e2, h1, h2⟩ := h
    refine ⟨[], A1, A2, by rw [e2]; rfl, v, vs, B, A2, by rw [e1]; rfl, rfl, hd, h2⟩
  | d0 :: ds, xs, A, i + 1, d, v, B, h, hd, hi => by
    obtain ⟨w, vs, A1, A2, e1, e2, h1, h2⟩ := h
    obtain ⟨C1, C2, C3, e3, h3⟩ := RpL.set (i := i) h2 hd (by simpa using hi)
    refine ⟨A1 ++ C1, C2, C3, by rw [e2, e3]; simp, w, vs.set i v, A1, C1 ++ B ++ C3, by rw [e1]; rfl, by simp, h1, h3⟩
end
end Dv
end
section
set_option maxRecDepth 100000
set_option maxHeartbeats 1000000
namespace Dv
open PySem PySem.Spec PyProof.Rows L2

/-- what an expression comes to: nothing is said, a value, an exception of the class numbered -/
inductive R (α : Type) where
  | no | ok (a : α) | ex (c : Nat)
def R.bind {α β : Type} (r : R α) (f : α → R β) : R β :=
  match r with
  | .no => .no
  | .ok a => f a
  | .ex c => .ex c
@[simp] theorem R.bind_no {α β : Type} (f : α → R β) : (R.no).bind f = .no := rfl
@[simp] theorem R.bind_ok {α β : Type} (a : α) (f : α → R β) : (R.ok a).bind f = f a := rfl
@[simp] theorem R.bind_ex {α β : Type} (c : Nat) (f : α → R β) : (R.ex c).bind f = .ex c := rfl
abbrev Env := List (Option D)
/-- what a statement comes to -/
inductive SR where
  | no | nx (ρ : Env) | bk (ρ : Env) | ct (ρ : Env) | rt (d : D) (ρ : Env) | ex (c : Nat) (ρ : Env)

def Res {α : Type} (r : R α) (P : α → Prop) (E : Nat → Prop) : Prop :=
  match r with
  | .no => False
  | .ok a => P a
  | .ex c => E c
theorem Res.mono {α : Type} {r : R α} {P P' : α → Prop} {E E' : Nat → Prop} (h : Res r P E) (p : ∀ a, r = .ok a → P a → P' a) (e : ∀ c, r = .ex c → E c → E' c) : Res r P' E' := by
  cases r with
  | no => exact h
  | ok a => exact p a rfl h
  | ex c => exact e c rfl h
theorem Res.bind {α β : Type} {r : R α} {f : α → R β} {P : β → Prop} {E : Nat → Prop} (h : Res (r.bind f) P E) : Res r (fun a => Res (f a) P E) E := by
  cases r with
  | no => exact h
  | ok a => exact h
  | ex c => exact h

/-- a def's run: what was at its entry -/
structure En where
  k : Kx
  ec : Nat → Value
  He : Hp
  F0 : Hp
  B : List Addr
  bs : List Nat
  v0 : L2.St

/-- what the slots own -/
structure Sl (E : En) (F H : Hp) (σ : L2.St) (ρ : Env) (fp : Nat → List Addr) : Prop where
  rp : ∀ i d, ρ[i]? = some (some d) → ∃ v, σ[i]? = some (some v) ∧ Rp E.k F H d v (fp i)
  em : ∀ i, ρ[i]?.getD none = none → fp i = []
  nd : ∀ i, (fp i).Nodup
  dj : ∀ i j a, a ∈ fp i → a ∈ fp j → i = j
  nw : ∀ i a, a ∈ fp i → E.He a = none ∨ (a ∈ E.B ∧ i ∈ E.bs)
theorem some_some {ρ : Env} {i : Nat} {d : D} (e : ρ[i]?.getD none = some d) : ρ[i]? = some (some d) := by
  cases z : ρ[i]? with
  | none => rw [z] at e; cases e
  | some o => rw [z] at e; exact congrArg some e
theorem Sl.there {E : En} {F H : Hp} {σ : L2.St} {ρ : Env} {fp : Nat → List Addr} (s : Sl E F H σ ρ fp) {i : Nat} {a : Addr} (h : a ∈ fp i) : F a = none ∧ H a ≠ none := by
  cases e : ρ[i]?.getD none with
  | none => rw [s.em i e] at h; cases h
  | some d =>
    obtain ⟨v, _, r⟩ := s.rp i d (some_some e)
    obtain ⟨h1, o, h2, _⟩ := Rp.dom d v _ r a h
    exact ⟨h1, by rw [h2]; exact fun z => nomatch z⟩
structure Stt (E : En) (F H : Hp) (σ : L2.St) (ρ : Env) : Prop where
  e0 : Ex E.F0 F
  fh : Ex F H
  fr : ∀ a, E.F0 a = none → E.He a ≠ none → F a = none
  st : ∀ a o, E.He a = some o → a ∉ E.B → H a = some o
  bt : ∀ a ∈ E.B, H a ≠ none
  len : ρ.length = σ.length
  bv : ∀ i ∈ E.bs, σ[i]? = E.v0[i]?
  sl : ∃ fp, Sl E F H σ ρ fp

section
variable {E : En} {F H F' H' : Hp} {σ : L2.St} {ρ : Env}
theorem Rp.tr {k : Kx} {d : D} {v : V} {A : List Addr} (t : Tr F H F' H') (r : Rp k F H d v A) : Rp k F' H' d v A :=
  Rp.mono t.ff d v A (fun a _ o e n => ⟨t.hh a o e, t.no a n fun z => by rw [z] at e; cases e⟩) r
theorem RpL.tr {k : Kx} {d : List D} {v : List V} {A : List Addr} (t : Tr F H F' H') (r : RpL k F H d v A) : RpL k F' H' d v A :=
  RpL.mono t.ff d v A (fun a _ o e n => ⟨t.hh a o e, t.no a n fun z => by rw [z] at e; cases e⟩) r
/-- what was there at the entry is there -/
theorem Stt.there (s : Stt E F H σ ρ) {a : Addr} (h : E.He a ≠ none) : H a ≠ none := by
  by_cases b : a ∈ E.B
  · exact s.bt a b
  · cases q : E.He a with
    | none => exact absurd q h
    | some o => rw [s.st a o q b]; exact fun z => nomatch z
theorem Stt.new (s : Stt E F H σ ρ) {a : Addr} (h : H a = none) : E.He a = none := by
  cases q : E.He a with
  | none => rfl
  | some o => exact absurd h (s.there (by rw [q]; exact fun z => nomatch z))
theorem Stt.tr (s : Stt E F H σ ρ) (t : Tr F H F' H') : Stt E F' H' σ ρ := by
  obtain ⟨fp, sl⟩ := s.sl
  refine ⟨s.e0.trans t.ff, t.fh, fun a e n => t.no a (s.fr a e n) (s.there n), fun a o e b => t.hh a o (s.st a o e b), fun a b z => ?_, s.len, s.bv, fp, fun i d e => ?_, sl.em, sl.nd, sl.dj, sl.nw⟩
  · cases q : H a with
    | none => exact s.bt a b q
    | some o => rw [t.hh a o q] at z; cases z
  · obtain ⟨v, e1, r⟩ := sl.rp i d e
    exact ⟨v, e1, r.tr t⟩
end

/-! ### what is wanted -/
/-- of an expression whose value is its own; of one whose value may be looked at only -/
def tO (E : En) (W : WX) (f : Env → R D) : TE := fun σ H Q => ∃ F ρ, Stt E F H σ ρ ∧
  Res (f ρ) (fun d => ∀ F' H' v A, Tr F H F' H' → Rp E.k F' H' d v A → A.Nodup → (∀ a ∈ A, H a = none) → Q v H') (fun c => ∀ F' H', Tr F H F' H' → W (E.ec c) none σ H')
def tV (E : En) (W : WX) (f : Env → R D) : TE := fun σ H Q => ∃ F ρ, Stt E F H σ ρ ∧
  Res (f ρ) (fun d => ∀ F' H' v A, Tr F H F' H' → Rp E.k F' H' d v A → Q v H') (fun c => ∀ F' H', Tr F H F' H' → W (E.ec c) none σ H')
def tT (E : En) (W : WX) (f : Env → R Bool) : TT := fun σ H Q => ∃ F ρ, Stt E F H σ ρ ∧
  Res (f ρ) (fun b => ∀ F' H', Tr F H F' H' → Q b H') (fun c => ∀ F' H', Tr F H F' H' → W (E.ec c) none σ H')
/-- of an argument list: values that are looked at -/
def tA (E : En) (W : WX) (f : Env → R (List D)) : TA := fun σ H Q => ∃ F ρ, Stt E F H σ ρ ∧
  Res (f ρ) (fun ds => ∀ F' H' vs, Tr F H F' H' → Paired (fun v d => ∃ A, Rp E.k F' H' d v A) vs ds → Q vs H') (fun c => ∀ F' H', Tr F H F' H' → W (E.ec c) none σ H')
/-- what a def's end is: the value is new or old and frozen, what the caller has is as it was -/
structure Fin (E : En) (F' H' : Hp) (d : D) (v : V) : Prop where
  e0 : Ex E.F0 F'
  fh : Ex F' H'
  fr : ∀ a, E.F0 a = none → E.He a ≠ none → F' a = none
  st : ∀ a o, E.He a = some o → a ∉ E.B → H' a = some o
  bt : ∀ a ∈ E.B, H' a ≠ none
  rp : ∃ A, Rp E.k F' H' d v A ∧ A.Nodup ∧ ∀ a ∈ A, E.He a = none
def SRes (E : En) (W : WX) (F : Hp) (Z : Ends) (r : SR) : Prop :=
  match r with
  | .no => False
  | .nx ρ => ∀ F' H' σ, Ex F F' → Stt E F' H' σ ρ → Z.nx σ H'
  | .bk ρ => ∀ F' H' σ, Ex F F' → Stt E F' H' σ ρ → Z.bk σ H'
  | .ct ρ => ∀ F' H' σ, Ex F F' → Stt E F' H' σ ρ → Z.ct σ H'
  | .rt d ρ => ∀ F' H' σ v, Stt E F' H' σ ρ → Fin E F' H' d v → Z.rt v H'
  | .ex c ρ => ∀ F' H' σ, Ex F F' → Stt E F' H' σ ρ → W (E.ec c) none σ H'
def tSS (E : En) (W : WX) (f : Env → SR) : TS := fun Z σ H => ∃ F ρ, Stt E F H σ ρ ∧ SRes E W F Z (f ρ)

structure EO (X : Cx) (E : En) (W : WX) (e : Expr) (f : Env → R D) : Prop where
  pe : PE X e (tO E W f)
structure EV (X : Cx) (E : En) (W : WX) (e : Expr) (f : Env → R D) : Prop where
  pe : PE X e (tV E W f)
structure ET (X : Cx) (E : En) (W : WX) (e : Expr) (f : Env → R Bool) : Prop where
  pt : PT X e (tT E W f)
structure EW (X : Cx) (E : En) (W : WX) (e : Expr) (f : Env → R Bool) : Prop where
  pw : PW X e (tT E W f)
structure EA (X : Cx) (E : En) (W : WX) (es : List Expr) (f : Env → R (List D)) : Prop where
  pa : PA X es (tA E W f)
structure SS (X : Cx) (E : En) (W : WX) (st : Stmt) (f : Env → SR) : Prop where
  ps : PS X st (tSS E W f)
structure SB (X : Cx) (E : En) (W : WX) (st : List Stmt) (f : Env → SR) : Prop where
  ps : PSs X st (tSS E W f)

theorem pe_mono {X : Cx} {e : Expr} {t t' : TE} (h : PE X e t) (i : ∀ σ H Q, t' σ H Q → t σ H Q) : PE X e t' := ⟨fun pins s σ H Q I q => h.run pins s σ H Q I (i σ H Q q)⟩
theorem pt_mono {X : Cx} {e : Expr} {t t' : TT} (h : PT X e t) (i : ∀ σ H Q, t' σ H Q → t σ H Q) : PT X e t' := ⟨fun pins s σ H Q I q => h.run pins s σ H Q I (i σ H Q q)⟩
theorem pw_mono {X : Cx} {e : Expr} {t t' : TT} (h : PW X e t) (i : ∀ σ H Q, t' σ H Q → t σ H Q) : PW X e t' := ⟨fun wh pins s σ H Q I q => h.run wh pins s σ H Q I (i σ H Q q)⟩
theorem pa_mono {X : Cx} {e : List Expr} {t t' : TA} (h : PA X e t) (i : ∀ σ H Q, t' σ H Q → t σ H Q) : PA X e t' := ⟨fun p pins s σ H Q I q => h.run p pins s σ H Q I (i σ H Q q)⟩
theorem ps_mono {X : Cx} {e : Stmt} {t t' : TS} (h : PS X e t) (i : ∀ Z σ H, t' Z σ H → t Z σ H) : PS X e t' := ⟨fun pins s σ H Z I q => h.run pins s σ H Z I (i Z σ H q)⟩
theorem pss_mono {X : Cx} {e : List Stmt} {t t' : TS} (h : PSs X e t) (i : ∀ Z σ H, t' Z σ H → t Z σ H) : PSs X e t' := ⟨fun pins s σ H Z I q => h.run pins s σ H Z I (i Z σ H q)⟩

section
variable {X : Cx} {E : En} {W : WX}
/-- own values may be looked at -/
theorem EO.v {e : Expr} {f : Env → R D} (h : EO X E W e f) : EV X E W e f := ⟨pe_mono h.pe fun σ H Q ⟨F, ρ, s, q⟩ => ⟨F, ρ, s, q.mono (fun d _ p F' H' v A t r _ _ => p F' H' v A t r) fun _ _ z => z⟩⟩
/-- what is pure may be kept -/
def asOwn (f : Env → R D) : Env → R D := fun ρ => (f ρ).bind fun d => if d.pure then .ok d else .no
theorem EV.o {e : Expr} {f : Env → R D} (h : EV X E W e f) : EO X E W e (asOwn f) := by
  refine ⟨pe_mono h.pe fun σ H Q ⟨F, ρ, s, q⟩ => ⟨F, ρ, s, ?_⟩⟩
  refine Res.mono q.bind (fun d _ p F' H' v A t r => ?_) fun _ _ z => z
  by_cases c : d.pure = true
  · rw [if_pos c] at p
    have e := Rp.own_nil d v A c r
    subst e
    exact p F' H' v [] t r .nil fun _ z => nomatch z
  · rw [if_neg c] at p
    exact p.elim
/-- a result that is made on the way -/
def GOk (E : En) (F H : Hp) (Q : VK) (d : D) : Prop := ∀ F' H' v A, Tr F H F' H' → Rp E.k F' H' d v A → A.Nodup → (∀ a ∈ A, H a = none) → Q v H'
theorem GOk.back {E : En} {F H F1 H1 : Hp} {Q : VK} {d : D} (g : GOk E F H Q d) (t : Tr F H F1 H1) : GOk E F1 H1 Q d := fun F' H' v A t' r n u => g F' H' v A (t.trans t') r n fun a ha => by
  cases q : H a with
  | none => rfl
  | some o => rw [← u a ha, t.hh a o q]
theorem GOk.scal {E : En} {F H : Hp} {Q : VK} {d : D} {v : V} (fh : Ex F H) (g : GOk E F H Q d) (r : ∀ F H, Rp E.k F H d v []) : Q v H := g F H v [] (Tr.refl fh) (r F H) .nil fun _ z => nomatch z
theorem tr_new {F H : Hp} {p : Addr} {o : HO} (fh : Ex F H) (h : H p = none) : Tr F H F (upd H p o) := ⟨.refl _, .new h, fh.trans (.new h), fun _ e _ => e⟩
/-- a new frozen object -/
theorem tr_newF {F H : Hp} {p : Addr} {o : HO} (fh : Ex F H) (h : H p = none) : Tr F H (upd F p o) (upd H p o) := by
  have hf : F p = none := by
    cases q : F p with
    | none => rfl
    | some u => rw [fh p u q] at h; cases h
  refine ⟨.new hf, .new h, fun a u e => ?_, fun a e n => ?_⟩
  · by_cases q : a = p
    · subst q; rw [upd_same] at e ⊢; exact e
    · rw [upd_ne q] at e ⊢; exact fh a u e
  · rw [upd_ne fun z => n (by rw [z]; exact h)]; exact e
/-- a new list whose items are frozen -/
theorem GOk.lst {E : En} {F H : Hp} {Q : VK} {ds : List D} {xs : List V} {p : Addr} (fh : Ex F H) (g : GOk E F H Q (.lst true ds)) (hp : H p = none) (r : RpL E.k F H ds xs []) : Q (.ref p) (upd H p (.lst xs)) := by
  have hf : F p = none := by
    cases q : F p with
    | none => rfl
    | some u => rw [fh p u q] at hp; cases hp
  refine g F _ (.ref p) [p] (tr_new fh hp) ⟨p, xs, [], rfl, r.tr (tr_new fh hp), (fun z => nomatch z), fun _ => ⟨rfl, hf, upd_same⟩⟩ (by simp) fun a ha => ?_
  rw [List.mem_singleton.mp ha]; exact hp
theorem GOk.tup {E : En} {F H : Hp} {Q : VK} {ds : List D} {xs : List V} {p : Addr} (fh : Ex F H) (g : GOk E F H Q (.tup ds)) (hp : H p = none) (r : RpL E.k F H ds xs []) : Q (.ref p) (upd H p (.tup xs)) := by
  refine g _ _ (.ref p) [] (tr_newF fh hp) ⟨p, xs, rfl, .inl (.inl upd_same), r.tr (tr_newF fh hp)⟩ .nil fun _ z => nomatch z

/-! two operands -/
/-- what may be left unsaid -/
def R.opt {α : Type} : Option α → R α
  | some a => .ok a
  | none => .no
@[simp] theorem R.opt_some {α : Type} (a : α) : R.opt (some a) = .ok a := rfl
@[simp] theorem R.opt_none {α : Type} : (R.opt none : R α) = .no := rfl
def e2 (g : D → D → Option D) (fa fb : Env → R D) : Env → R D := fun ρ => (fa ρ).bind fun x => (fb ρ).bind fun y => R.opt (g x y)
@[simp] theorem e2_eq (g : D → D → Option D) (fa fb : Env → R D) (ρ : Env) : e2 g fa fb ρ = (fa ρ).bind fun x => (fb ρ).bind fun y => R.opt (g x y) := rfl
theorem Res.opt {α : Type} {o : Option α} {P : α → Prop} {E : Nat → Prop} (h : Res (R.opt o) P E) : ∃ a, o = some a ∧ P a := by
  cases o with
  | none => exact h.elim
  | some a => exact ⟨a, rfl, h⟩
/-- g says what the operation r does -/
def Says2 (E : En) (r : R2) (g : D → D → Option D) : Prop := ∀ F H x y v w A B Q d, Ex F H → Rp E.k F H x v A → Rp E.k F H y w B → g x y = some d → GOk E F H Q d → r v w H Q
theorem says2 {r : R2} {g : D → D → Option D} (hg : Says2 E r g) {fa fb : Env → R D} {σ : L2.St} {H : Hp} {Q : VK} (h : tO E W (e2 g fa fb) σ H Q) : tOp r (tV E W fa) (tV E W fb) σ H Q := by
  obtain ⟨F, ρ, s, q⟩ := h
  refine ⟨F, ρ, s, Res.mono q.bind (fun x _ q F1 H1 v A t1 r1 => ?_) fun c _ z F' H' t => z F' H' t⟩
  refine ⟨F1, ρ, s.tr t1, Res.mono q.bind (fun y _ q F2 H2 w B t2 r2 => ?_) fun c _ z F' H' t => z F' H' (t1.trans t)⟩
  obtain ⟨d, e, p⟩ := q.opt
  exact hg F2 H2 x y v w A B Q d t2.fh (r1.tr t2) r2 e (GOk.back (F := F) (H := H) (F1 := F2) (H1 := H2) p (t1.trans t2))
theorem eo_op {a b : Expr} {op : Operator} {r : R2} {g : D → D → Option D} {fa fb : Env → R D} {pos : Pos} (ho : OpR X (binaryOp op) r) (hg : Says2 E r g) (ha : EV X E W a fa) (hb : EV X E W b fb) : EO X E W (.BinOp a op b pos) (e2 g fa fb) :=
  ⟨pe_mono (pe_op ho ha.pe hb.pe) fun _ _ _ h => says2 hg h⟩
end
end Dv
end
section
set_option maxRecDepth 100000
set_option maxHeartbeats 1000000
namespace Dv
open PySem PySem.Spec PyProof.Rows L2

section
variable {X : Cx} {E : En} {W : WX}
/-! ### constants and names -/
def eC (d : D) : Env → R D := fun _ => .ok d
@[simp] theorem eC_eq (d : D) (ρ : Env) : eC d ρ = .ok d := rfl
theorem eo_c {e : Expr} {v : V} {d : D} (h : PE X e (tC v)) (r : ∀ F H, Rp E.k F H d v []) : EO X E W e (eC d) :=
  ⟨pe_mono h fun σ H Q ⟨F, ρ, s, q⟩ => GOk.scal (E := E) s.fh (show GOk E F H Q d from q) r⟩
theorem eo_int {i : Int} {j : Nat} {pos : Pos} : EO X E W (.Constant (.int i) j pos) (eC (.int i)) := eo_c pe_int fun _ _ => ⟨rfl, rfl⟩
theorem eo_bl {i : Bool} {j : Nat} {pos : Pos} : EO X E W (.Constant (.bool i) j pos) (eC (.bl i)) := eo_c pe_bl fun _ _ => ⟨rfl, rfl⟩
theorem eo_non {j : Nat} {pos : Pos} : EO X E W (.Constant .none j pos) (eC .non) := eo_c pe_non fun _ _ => ⟨rfl, rfl⟩
theorem eo_str {i : Str} {j : Nat} {pos : Pos} : EO X E W (.Constant (.str i) j pos) (eC (.str i)) := eo_c pe_str fun _ _ => ⟨rfl, rfl⟩
/-- a module's constant -/
theorem eo_glob {x : Str} {v : V} {u : Value} {d : D} {pos : Pos} (hg : Gl X x) (hm : X.mg x = some u) (r : RelV v u) (rp : ∀ F H, Rp E.k F H d v []) (hd : (x == ("__debug__" : Str)) = false := by decide) : EO X E W (.Name x pos) (eC d) := eo_c (pe_glob hg hm r hd) rp
def eVar (i : Nat) : Env → R D := fun ρ => R.opt (ρ[i]?.getD none)
@[simp] theorem eVar_eq (i : Nat) (ρ : Env) : eVar i ρ = R.opt (ρ[i]?.getD none) := rfl
theorem ev_var {e : Expr} {i : Nat} (h : PE X e (tVar i)) : EV X E W e (eVar i) := by
  refine ⟨pe_mono h fun σ H Q ⟨F, ρ, s, q⟩ => ?_⟩
  obtain ⟨d, e, q⟩ := Res.opt q
  obtain ⟨fp, sl⟩ := s.sl
  obtain ⟨v, ev, r⟩ := sl.rp i d (some_some e)
  exact ⟨v, ev, q F H v _ (Tr.refl s.fh) r⟩

/-! ### one operand -/
def e1 (g : D → Option D) (fa : Env → R D) : Env → R D := fun ρ => (fa ρ).bind fun x => R.opt (g x)
@[simp] theorem e1_eq (g : D → Option D) (fa : Env → R D) (ρ : Env) : e1 g fa ρ = (fa ρ).bind fun x => R.opt (g x) := rfl
def Says1 (E : En) (r : V → Hp → VK → Prop) (g : D → Option D) : Prop := ∀ F H x v A Q d, Ex F H → Rp E.k F H x v A → g x = some d → GOk E F H Q d → r v H Q
theorem says1 {r : V → Hp → VK → Prop} {g : D → Option D} (hg : Says1 E r g) {fa : Env → R D} {σ : L2.St} {H : Hp} {Q : VK} (h : tO E W (e1 g fa) σ H Q) : tUn r (tV E W fa) σ H Q := by
  obtain ⟨F, ρ, s, q⟩ := h
  refine ⟨F, ρ, s, Res.mono q.bind (fun x _ q F1 H1 v A t1 r1 => ?_) fun c _ z F' H' t => z F' H' t⟩
  obtain ⟨d, e, p⟩ := q.opt
  exact hg F1 H1 x v A Q d t1.fh r1 e (GOk.back (F := F) (H := H) (F1 := F1) (H1 := H1) p t1)
theorem eo_un {a : Expr} {op : UnaryOp} {r : V → Hp → VK → Prop} {g : D → Option D} {fa : Env → R D} {pos : Pos} (ho : UnR X (unaryOp op) r) (hg : Says1 E r g) (ha : EV X E W a fa) : EO X E W (.UnaryOp op a pos) (e1 g fa) :=
  ⟨pe_mono (pe_un ho ha.pe) fun _ _ _ h => says1 hg h⟩
def gNeg : D → Option D
  | .int i => some (.int (-i))
  | _ => none
@[simp] theorem gNeg_int (i : Int) : gNeg (.int i) = some (.int (-i)) := rfl
theorem says_neg : Says1 E (rU fun i => .int (-i)) gNeg := by
  intro F H x v A Q d fh rx e g
  cases x with
  | int i =>
    cases e
    exact ⟨i, rx.1, g.scal fh fun _ _ => ⟨rfl, rfl⟩⟩
  | _ => cases e
theorem eo_neg {a : Expr} {fa : Env → R D} {pos : Pos} (ha : EV X E W a fa) : EO X E W (.UnaryOp .USub a pos) (e1 gNeg fa) := eo_un un_neg says_neg ha

/-! ### arithmetic -/
/-- two ints under a condition -/
def gI (c : Int → Int → Bool) (f : Int → Int → Int) : D → D → Option D
  | .int i, .int j => if c i j = true then some (.int (f i j)) else none
  | _, _ => none
@[simp] theorem gI_int (c : Int → Int → Bool) (f : Int → Int → Int) (i j : Int) : gI c f (.int i) (.int j) = if c i j = true then some (.int (f i j)) else none := rfl
theorem says_I {C : Int → Int → Prop} {c : Int → Int → Bool} {f : Int → Int → Int} (hc : ∀ i j, c i j = true → C i j) : Says2 E (rI C fun i j => .int (f i j)) (gI c f) := by
  intro F H x y v w A B Q d fh rx ry e g
  cases x with
  | int i =>
    cases y with
    | int j =>
      by_cases z : c i j = true
      · have e' : (if c i j = true then some (D.int (f i j)) else none) = some d := e
        rw [if_pos z] at e'
        cases e'
        exact ⟨i, j, rx.1, ry.1, hc i j z, g.scal fh fun _ _ => ⟨rfl, rfl⟩⟩
      · have e' : (if c i j = true then some (D.int (f i j)) else none) = some d := e
        rw [if_neg z] at e'
        cases e'
    | _ => cases e
  | _ => cases e
def gI0 (f : Int → Int → Int) : D → D → Option D
  | .int i, .int j => some (.int (f i j))
  | _, _ => none
@[simp] theorem gI0_int (f : Int → Int → Int) (i j : Int) : gI0 f (.int i) (.int j) = some (.int (f i j)) := rfl
theorem says_I0 {f : Int → Int → Int} : Says2 E (rI0 fun i j => .int (f i j)) (gI0 f) := by
  intro F H x y v w A B Q d fh rx ry e g
  cases x with
  | int i =>
    cases y with
    | int j =>
      cases e
      exact ⟨i, j, rx.1, ry.1, g.scal fh fun _ _ => ⟨rfl, rfl⟩⟩
    | _ => cases e
  | _ => cases e
abbrev gSub := gI0 fun i j => i - j
abbrev gAndB := gI0 fun i j => Builtin.bitAnd i j
abbrev gOrB := gI0 fun i j => Builtin.bitOr i j
abbrev gXorB := gI0 fun i j => Builtin.bitXor i j
/-! bounds, said by name: no great literal meets a name of a number -/
/-- below 2^64 -/
def W64 (i : Int) : Prop := -18446744073709551616 < i ∧ i < 18446744073709551616
noncomputable instance (i : Int) : Decidable (W64 i) := Classical.propDecidable _
theorem w64 {i : Int} (h1 : -18446744073709551616 < i) (h2 : i < 18446744073709551616) : W64 i := ⟨h1, h2⟩
@[simp] theorem w64_lit (n : Nat) (h : n < 18446744073709551616) : W64 (no_index (OfNat.ofNat n)) := by
  show -18446744073709551616 < (n : Int) ∧ (n : Int) < 18446744073709551616
  omega
@[simp] theorem w64_neg (n : Nat) (h : n < 18446744073709551616) : W64 (-(no_index (OfNat.ofNat n))) := by
  show -18446744073709551616 < -(n : Int) ∧ -(n : Int) < 18446744073709551616
  omega
/-- below 2^62 -/
def W62 (i : Int) : Prop := -4611686018427387904 ≤ i ∧ i < 4611686018427387904
noncomputable instance (i : Int) : Decidable (W62 i) := Classical.propDecidable _
theorem w62 {i : Int} (h1 : -4611686018427387904 ≤ i) (h2 : i < 4611686018427387904) : W62 i := ⟨h1, h2⟩
@[simp] theorem w62_lit (n : Nat) (h : n < 4611686018427387904) : W62 (no_index (OfNat.ofNat n)) := by
  show -4611686018427387904 ≤ (n : Int) ∧ (n : Int) < 4611686018427387904
  omega
@[simp] theorem w62_neg (n : Nat) (h : n < 4611686018427387904) : W62 (-(no_index (OfNat.ofNat n))) := by
  show -4611686018427387904 ≤ -(n : Int) ∧ -(n : Int) < 4611686018427387904
  omega
/-- a divisor for // -/
def DvOk (j : Int) : Prop := 0 < j ∧ j < 1073741824
noncomputable instance (i : Int) : Decidable (DvOk i) := Classical.propDecidable _
theorem dvOk {i : Int} (h1 : 0 < i) (h2 : i < 1073741824) : DvOk i := ⟨h1, h2⟩
@[simp] theorem dvOk_lit (n : Nat) (h : n < 1073741824) (h0 : 0 < n) : DvOk (no_index (OfNat.ofNat n)) := by
  show 0 < (n : Int) ∧ (n : Int) < 1073741824
  omega
/-- i ** j, i << j -/
def PwOk (i j : Int) : Prop := 0 ≤ j ∧ j ≤ 1000000 ∧ i.natAbs < 18446744073709551616
noncomputable instance (i j : Int) : Decidable (PwOk i j) := Classical.propDecidable _
theorem pwOk {i j : Int} (h1 : 0 ≤ j) (h2 : j ≤ 1000000) (h3 : -18446744073709551616 < i) (h4 : i < 18446744073709551616) : PwOk i j := ⟨h1, h2, by omega⟩
@[simp] theorem pwOk_lit (n m : Nat) (h : n < 18446744073709551616) (h0 : m ≤ 1000000) : PwOk (no_index (OfNat.ofNat n)) (no_index (OfNat.ofNat m)) := by
  show 0 ≤ (m : Int) ∧ (m : Int) ≤ 1000000 ∧ (n : Int).natAbs < 18446744073709551616
  omega
/-- a list of n things j times -/
def RpOk (n : Nat) (j : Int) : Prop := -16777216 ≤ j ∧ j ≤ 16777216 ∧ n * j.toNat ≤ 16777216
noncomputable instance (n : Nat) (j : Int) : Decidable (RpOk n j) := Classical.propDecidable _
theorem rpOk {n : Nat} {j : Int} (h1 : -16777216 ≤ j) (h2 : j ≤ 16777216) (h3 : n * j.toNat ≤ 16777216) : RpOk n j := ⟨h1, h2, h3⟩
@[simp] theorem rpOk_lit (n m : Nat) (h : n * m ≤ 16777216) (h2 : m ≤ 16777216) : RpOk n (no_index (OfNat.ofNat m)) := by
  show -16777216 ≤ (m : Int) ∧ (m : Int) ≤ 16777216 ∧ n * m ≤ 16777216
  omega
/-- a factor below 2^64 -/
noncomputable def cMul (i j : Int) : Bool := decide (W64 i ∨ W64 j)
noncomputable def cDiv (_ j : Int) : Bool := decide (DvOk j)
def cMod (_ j : Int) : Bool := decide (0 < j)
noncomputable def cPow (i j : Int) : Bool := decide (PwOk i j)
def cShr (_ j : Int) : Bool := decide (0 ≤ j)
@[simp] theorem cMul_eq (i j : Int) : (cMul i j = true) = (W64 i ∨ W64 j) := by simp [cMul]
@[simp] theorem cDiv_eq (i j : Int) : (cDiv i j = true) = DvOk j := by simp [cDiv]
@[simp] theorem cMod_eq (i j : Int) : (cMod i j = true) = (0 < j) := by simp [cMod]
@[simp] theorem cPow_eq (i j : Int) : (cPow i j = true) = PwOk i j := by simp [cPow]
@[simp] theorem cShr_eq (i j : Int) : (cShr i j = true) = (0 ≤ j) := by simp [cShr]
noncomputable abbrev gMulI := gI cMul fun i j => i * j
noncomputable abbrev gDiv := gI cDiv fun i j => i / j
abbrev gMod := gI cMod fun i j => i % j
noncomputable abbrev gPow := gI cPow fun i j => i ^ j.toNat
noncomputable abbrev gShl := gI cPow fun i j => i * 2 ^ j.toNat
abbrev gShr := gI cShr fun i j => i / 2 ^ j.toNat
section
variable {a b : Expr} {fa fb : Env → R D} {pos : Pos}
theorem eo_sub (ha : EV X E W a fa) (hb : EV X E W b fb) : EO X E W (.BinOp a .Sub b pos) (e2 gSub fa fb) := eo_op op_sub says_I0 ha hb
theorem eo_band (ha : EV X E W a fa) (hb : EV X E W b fb) : EO X E W (.BinOp a .BitAnd b pos) (e2 gAndB fa fb) := eo_op op_and says_I0 ha hb
theorem eo_bor (ha : EV X E W a fa) (hb : EV X E W b fb) : EO X E W (.BinOp a .BitOr b pos) (e2 gOrB fa fb) := eo_op op_or says_I0 ha hb
theorem eo_bxor (ha : EV X E W a fa) (hb : EV X E W b fb) : EO X E W (.BinOp a .BitXor b pos) (e2 gXorB fa fb) := eo_op op_xor says_I0 ha hb
theorem eo_mulI (ha : EV X E W a fa) (hb : EV X E W b fb) : EO X E W (.BinOp a .Mult b pos) (e2 gMulI fa fb) := eo_op op_mul (says_I fun i j h => by
  rw [cMul_eq] at h
  exact h) ha hb
theorem eo_div (ha : EV X E W a fa) (hb : EV X E W b fb) : EO X E W (.BinOp a .FloorDiv b pos) (e2 gDiv fa fb) := eo_op op_fdiv (says_I fun i j h => by
  rw [cDiv_eq] at h
  exact h) ha hb
theorem eo_mod (ha : EV X E W a fa) (hb : EV X E W b fb) : EO X E W (.BinOp a .Mod b pos) (e2 gMod fa fb) := eo_op op_mod (says_I fun i j h => by
  rw [cMod_eq] at h
  exact h) ha hb
theorem eo_pow (ha : EV X E W a fa) (hb : EV X E W b fb) : EO X E W (.BinOp a .Pow b pos) (e2 gPow fa fb) := eo_op op_pow (says_I fun i j h => by
  rw [cPow_eq] at h
  exact h) ha hb
theorem eo_shl (ha : EV X E W a fa) (hb : EV X E W b fb) : EO X E W (.BinOp a .LShift b pos) (e2 gShl fa fb) := eo_op op_shl (says_I fun i j h => by
  rw [cPow_eq] at h
  exact h) ha hb
theorem eo_shr (ha : EV X E W a fa) (hb : EV X E W b fb) : EO X E W (.BinOp a .RShift b pos) (e2 gShr fa fb) := eo_op op_shr (says_I fun i j h => by
  rw [cShr_eq] at h
  exact h) ha hb
end

/-! ### + of ints, texts, lists -/
/-- the items of a list, whether it is owned or not, if they are pure -/
theorem Rp.lstR {k : Kx} {F H : Hp} {o : Bool} {xs : List D} {v : V} {A : List Addr} (fh : Ex F H) (p : D.pureL xs = true) (h : Rp k F H (.lst o xs) v A) : ∃ a vs, v = .ref a ∧ H a = some (.lst vs) ∧ RpL k F H xs vs [] := by
  obtain ⟨a, vs, B, e, r, h1, h2⟩ := h
  refine ⟨a, vs, e, ?_, RpL.pure p (.refl _) r⟩
  cases o with
  | false => exact fh _ _ (h1 rfl).1
  | true => exact (h2 rfl).2.2
theorem Rp.lstW {k : Kx} {F H : Hp} {o : Bool} {xs : List D} {v : V} {A : List Addr} (fh : Ex F H) (h : Rp k F H (.lst o xs) v A) : ∃ a vs B, v = .ref a ∧ H a = some (.lst vs) ∧ RpL k F H xs vs B := by
  obtain ⟨a, vs, B, e, r, h1, h2⟩ := h
  refine ⟨a, vs, B, e, ?_, r⟩
  cases o with
  | false => exact fh _ _ (h1 rfl).1
  | true => exact (h2 rfl).2.2
def big : Nat := 16777216
theorem big_le {n : Nat} (h : n ≤ 16777216) : n ≤ sizeLine := by rw [sizeLine_eq]; exact h
def gAdd : D → D → Option D
  | .int i, .int j => some (.int (i + j))
  | .int i, .bl j => some (.int (i + b2i j))
  | .str x, .str y => if x.length + y.length ≤ 16777216 then some (.str (x ++ y)) else none
  | .lst _ xs, .lst _ ys => if D.pureL xs = true ∧ D.pureL ys = true ∧ xs.length + ys.length ≤ 16777216 then some (.lst true (xs ++ ys)) else none
  | .tup xs, .tup ys => if D.pureL xs = true ∧ D.pureL ys = true ∧ xs.length + ys.length ≤ 16777216 then some (.tup (xs ++ ys)) else none
  | _, _ => none
@[simp] theorem gAdd_tup (xs ys : List D) : gAdd (.tup xs) (.tup ys) = if D.pureL xs = true ∧ D.pureL ys = true ∧ xs.length + ys.length ≤ 16777216 then some (.tup (xs ++ ys)) else none := rfl
@[simp] theorem gAdd_int (i j : Int) : gAdd (.int i) (.int j) = some (.int (i + j)) := rfl
@[simp] theorem gAdd_bl (i : Int) (j : Bool) : gAdd (.int i) (.bl j) = some (.int (i + b2i j)) := rfl
@[simp] theorem gAdd_str (x y : Str) : gAdd (.str x) (.str y) = if x.length + y.length ≤ 16777216 then some (.str (x ++ y)) else none := rfl
@[simp] theorem gAdd_lst (o p : Bool) (xs ys : List D) : gAdd (.lst o xs) (.lst p ys) = if D.pureL xs = true ∧ D.pureL ys = true ∧ xs.length + ys.length ≤ 16777216 then some (.lst true (xs ++ ys)) else none := rfl
def rAddA (K : PySem.W.Frag) : R2 := fun x y H Q => ((rI0 (fun i j => .int (i + j)) x y H Q ∨ (∃ i k, x = .int i ∧ y = .bl k ∧ Q (.int (i + b2i k)) H)) ∨ (∃ i j, x = .str i ∧ y = .str j ∧ i.length + j.length ≤ sizeLine ∧ Q (.str (i ++ j)) H) ∨ rCat x y H Q) ∨ rCatA K x y H Q
theorem op_addA : OpR X (binaryOp .Add) (rAddA X.K) := ((op_add.or op_add_ib).or (op_add_str.or op_cat)).or op_catA
theorem if_some {α : Type} {c : Prop} [Decidable c] {a b : α} (h : (if c then some a else none) = some b) : c ∧ a = b := by
  by_cases z : c
  · rw [if_pos z] at h
    exact ⟨z, Option.some.inj h⟩
  · rw [if_neg z] at h
    cases h
theorem says_add : Says2 E (rAddA E.k.K) gAdd := by
  intro F H x y v w A B Q d fh rx ry e g
  cases x with
  | int i =>
    cases y with
    | int j => cases e; exact .inl (.inl (.inl ⟨i, j, rx.1, ry.1, g.scal fh fun _ _ => ⟨rfl, rfl⟩⟩))
    | bl j => cases e; exact .inl (.inl (.inr ⟨i, j, rx.1, ry.1, g.scal fh fun _ _ => ⟨rfl, rfl⟩⟩))
    | _ => cases e
  | str i =>
    cases y with
    | str j =>
      obtain ⟨z, e⟩ := if_some e
      cases e
      exact .inl (.inr (.inl ⟨i, j, rx.1, ry.1, big_le z, g.scal fh fun _ _ => ⟨rfl, rfl⟩⟩))
    | _ => cases e
  | lst o xs =>
    cases y with
    | lst o' ys =>
      obtain ⟨z, e⟩ := if_some e
      cases e
      obtain ⟨a, vs, rfl, h1, r1⟩ := Rp.lstR fh z.1 rx
      obtain ⟨b, ws, rfl, h2, r2⟩ := Rp.lstR fh z.2.1 ry
      refine .inl (.inr (.inr ⟨a, b, vs, ws, rfl, rfl, h1, h2, big_le (by rw [← r1.len, ← r2.len]; exact z.2.2), fun p hp => ?_⟩))
      exact g.lst fh hp (RpL.append r1 r2)
    | _ => cases e
  | tup xs =>
    cases y with
    | tup ys =>
      obtain ⟨z, e⟩ := if_some e
      cases e
      obtain ⟨a, vs, rfl, h1, r1⟩ := rx
      obtain ⟨b, ws, rfl, h2, r2⟩ := ry
      have r1' : RpL E.k F H xs vs [] := RpL.pure z.1 (.refl _) r1
      have r2' : RpL E.k F H ys ws [] := RpL.pure z.2.1 (.refl _) r2
      refine .inr ⟨a, b, vs, ws, rfl, rfl, ex_t fh h1, ex_t fh h2, big_le (by rw [← r1.len, ← r2.len]; exact z.2.2), fun e1 => ?_, fun _ e2 => ?_, fun _ _ p hp => ?_⟩
      · have l : xs = [] := List.length_eq_zero_iff.mp (by rw [r1.len, e1]; rfl)
        rw [l, List.nil_append] at g
        exact g F H _ [] (Tr.refl fh) ⟨b, ws, rfl, h2, r2'⟩ .nil fun _ z => nomatch z
      · have l : ys = [] := List.length_eq_zero_iff.mp (by rw [r2.len, e2]; rfl)
        rw [l, List.append_nil] at g
        exact g F H _ [] (Tr.refl fh) ⟨a, vs, rfl, h1, r1'⟩ .nil fun _ z => nomatch z
      · exact g.tup fh hp (RpL.append r1' r2')
    | _ => cases e
  | _ => cases e
theorem eo_add {a b : Expr} {fa fb : Env → R D} {pos : Pos} (ha : EV X E W a fa) (hb : EV X E W b fb) (hK : E.k.K = X.K := by rfl) : EO X E W (.BinOp a .Add b pos) (e2 gAdd fa fb) := eo_op op_addA (by rw [← hK]; exact says_add) ha hb

/-! ### list * int -/
theorem RpL.rep {k : Kx} {F H : Hp} {ds : List D} {vs : List V} (h : RpL k F H ds vs []) : ∀ n : Nat, RpL k F H (List.replicate n ds).flatten (List.replicate n vs).flatten []
  | 0 => ⟨rfl, rfl⟩
  | n + 1 => by
    rw [List.replicate_succ, List.replicate_succ, List.flatten_cons, List.flatten_cons]
    exact RpL.append h (RpL.rep h n)
noncomputable def gMul : D → D → Option D
  | .int i, .int j => if W64 i ∨ W64 j then some (.int (i * j)) else none
  | .lst _ xs, .int j => if D.pureL xs = true ∧ RpOk xs.length j then some (.lst true (List.replicate j.toNat xs).flatten) else none
  | _, _ => none
@[simp] theorem gMul_int (i j : Int) : gMul (.int i) (.int j) = if W64 i ∨ W64 j then some (.int (i * j)) else none := rfl
@[simp] theorem gMul_lst (o : Bool) (xs : List D) (j : Int) : gMul (.lst o xs) (.int j) = if D.pureL xs = true ∧ RpOk xs.length j then some (.lst true (List.replicate j.toNat xs).flatten) else none := rfl
def rMulA : R2 := fun x y H Q => rI CMul (fun i j => .int (i * j)) x y H Q ∨ rRep x y H Q
theorem op_mulA : OpR X (binaryOp .Mult) rMulA := op_mul.or op_rep
theorem says_mul : Says2 E rMulA gMul := by
  intro F H x y v w A B Q d fh rx ry e g
  cases x with
  | int i =>
    cases y with
    | int j =>
      obtain ⟨z, e⟩ := if_some e
      cases e
      exact .inl ⟨i, j, rx.1, ry.1, z, g.scal fh fun _ _ => ⟨rfl, rfl⟩⟩
    | _ => cases e
  | lst o xs =>
    cases y with
    | int j =>
      obtain ⟨z, e⟩ := if_some e
      cases e
      obtain ⟨a, vs, rfl, h1, r1⟩ := Rp.lstR fh z.1 rx
      refine .inr ⟨a, j, vs, rfl, ry.1, h1, by have := z.2.1; omega, by have := z.2.2.1; omega, big_le (by rw [← r1.len]; exact z.2.2.2), fun p hp => ?_⟩
      exact g.lst fh hp (RpL.rep r1 _)
    | _ => cases e
  | _ => cases e
theorem eo_mul {a b : Expr} {fa fb : Env → R D} {pos : Pos} (ha : EV X E W a fa) (hb : EV X E W b fb) : EO X E W (.BinOp a .Mult b pos) (e2 gMul fa fb) := eo_op op_mulA says_mul ha hb
end
end Dv
end
section
set_option maxRecDepth 100000
set_option maxHeartbeats 1000000
namespace Dv
open PySem PySem.Spec PyProof.Rows L2

/-! ### data as the library compares it -/
mutual
def D.toP : D → PyData
  | .non => .none | .bl b => .bool b | .int i => .int i | .str x => .str x
  | .tup xs => .tuple (D.toPL xs)
  | .lst _ xs => .list (D.toPL xs)
  | .scr _ => .none
  | .dic _ _ _ => .none
  | .dit _ _ _ => .none
  | .ins _ _ _ => .none
def D.toPL : List D → List PyData
  | [] => []
  | x :: xs => x.toP :: D.toPL xs
end
mutual
/-- may be compared as a whole: no dict, no instance, nested at most n deep -/
def D.lay : Nat → D → Bool
  | _, .non => true | _, .bl _ => true | _, .int _ => true | _, .str x => PyData.strOk x
  | n + 1, .tup xs => D.layL n xs
  | n + 1, .lst _ xs => D.layL n xs
  | 0, .tup _ => false
  | 0, .lst _ _ => false
  | _, .scr _ => false
  | _, .dic _ _ _ => false
  | _, .dit _ _ _ => false
  | _, .ins _ _ _ => false
def D.layL : Nat → List D → Bool
  | _, [] => true
  | n, x :: xs => x.lay n && D.layL n xs
end
mutual
theorem D.lay_can : ∀ (n : Nat) (d : D), d.lay n = true → d.toP.canLay0 = true ∧ d.toP.depth ≤ n
  | _, .non, _ => by simp [D.toP, PyData.canLay0, PyData.depth]
  | _, .bl _, _ => by simp [D.toP, PyData.canLay0, PyData.depth]
  | _, .int _, _ => by simp [D.toP, PyData.canLay0, PyData.depth]
  | _, .str x, h => by simpa [D.toP, PyData.canLay0, PyData.depth, D.lay] using h
  | n + 1, .tup xs, h => by
    have q := D.layL_can n xs (by simpa [D.lay] using h)
    simp only [D.toP, PyData.canLay0, PyData.depth]
    exact ⟨q.1, by omega⟩
  | n + 1, .lst _ xs, h => by
    have q := D.layL_can n xs (by simpa [D.lay] using h)
    simp only [D.toP, PyData.canLay0, PyData.depth]
    exact ⟨q.1, by omega⟩
  | 0, .tup _, h => absurd h (by simp [D.lay])
  | 0, .lst _ _, h => absurd h (by simp [D.lay])
  | _, .scr _, h => absurd h (by simp [D.lay])
  | _, .dic _ _ _, h => absurd h (by simp [D.lay])
  | _, .dit _ _ _, h => absurd h (by simp [D.lay])
  | _, .ins _ _ _, h => absurd h (by simp [D.lay])
theorem D.layL_can : ∀ (n : Nat) (ds : List D), D.layL n ds = true → PyData.canLayAll0 (D.toPL ds) = true ∧ PyData.depthAll (D.toPL ds) ≤ n
  | _, [], _ => by simp [D.toPL, PyData.canLayAll0, PyData.depthAll]
  | n, d :: ds, h => by
    have h' : d.lay n = true ∧ D.layL n ds = true := by simpa [D.layL] using h
    have q1 := D.lay_can n d h'.1
    have q2 := D.layL_can n ds h'.2
    simp only [D.toPL, PyData.canLayAll0, PyData.depthAll, q1.1, q2.1, Bool.and_self]
    exact ⟨trivial, by omega⟩
end
theorem D.lay_shaped {d : D} (h : d.lay 60 = true) : SeqAt.shaped d.toP = true := by
  obtain ⟨h1, h2⟩ := D.lay_can 60 d h
  unfold SeqAt.shaped
  rw [h1, decide_eq_true (show d.toP.depth ≤ 64 by omega)]
  rfl
section
variable {k : Kx} {F H : Hp}
mutual
theorem Rp.dp (fh : Ex F H) : ∀ (n : Nat) (d : D) (v : V) (A : List Addr), d.lay n = true → Rp k F H d v A → Dp k.K H v d.toP
  | _, .non, _, _, _, h => by rw [h.1]; exact .non
  | _, .bl _, _, _, _, h => by rw [h.1]; exact .bl _
  | _, .int _, _, _, _, h => by rw [h.1]; exact .int _
  | _, .str _, _, _, _, h => by rw [h.1]; exact .str _
  | n + 1, .tup ds, v, A, l, h => by
    obtain ⟨a, xs, rfl, s, r⟩ := h
    exact .tup (ex_t fh s) (RpL.dp fh n ds xs A (by simpa [D.lay] using l) r)
  | n + 1, .lst o ds, v, A, l, h => by
    obtain ⟨a, xs, B, rfl, s, r⟩ := Rp.lstW fh h
    exact .lst (.inl (.inl s)) (RpL.dp fh n ds xs B (by simpa [D.lay] using l) r)
  | 0, .tup _, _, _, h, _ => absurd h (by simp [D.lay])
  | 0, .lst _ _, _, _, h, _ => absurd h (by simp [D.lay])
  | _, .scr _, _, _, h, _ => absurd h (by simp [D.lay])
  | _, .dic _ _ _, _, _, h, _ => absurd h (by simp [D.lay])
  | _, .dit _ _ _, _, _, h, _ => absurd h (by simp [D.lay])
  | _, .ins _ _ _, _, _, h, _ => absurd h (by simp [D.lay])
theorem RpL.dp (fh : Ex F H) : ∀ (n : Nat) (ds : List D) (vs : List V) (A : List Addr), D.layL n ds = true → RpL k F H ds vs A → DpAll k.K H vs (D.toPL ds)
  | _, [], _, _, _, h => by rw [h.1]; exact .nil
  | n, d :: ds, xs, A, l, h => by
    obtain ⟨v, vs, B, C, e1, e2, h1, h2⟩ := h
    have l' : d.lay n = true ∧ D.layL n ds = true := by simpa [D.layL] using l
    rw [e1]
    exact .cons (Rp.dp fh n d v B l'.1 h1) (RpL.dp fh n ds vs C l'.2 h2)
end
end

/-- data is equal as Python says -/
def D.eqv (x y : D) : Bool := PyData.eqv x.toP y.toP
def gEq : D → D → Option D
  | .str x, .str y => some (.bl (x == y))
  | .str _, .non => some (.bl false)
  | .non, .str _ => some (.bl false)
  | x, y => if x.lay 60 = true ∧ y.lay 60 = true then some (.bl (x.eqv y)) else none
def gNe : D → D → Option D
  | .str x, .str y => some (.bl (!(x == y)))
  | x, y => if x.lay 60 = true ∧ y.lay 60 = true then some (.bl (!(x.eqv y))) else none
@[simp] theorem gEq_str (x y : Str) : gEq (.str x) (.str y) = some (.bl (x == y)) := rfl
@[simp] theorem gNe_str (x y : Str) : gNe (.str x) (.str y) = some (.bl (!(x == y))) := rfl
@[simp] theorem gEq_int (i j : Int) : gEq (.int i) (.int j) = some (.bl (i == j)) := by simp [gEq, D.lay, D.eqv, D.toP, PyData.eqv]
@[simp] theorem gNe_int (i j : Int) : gNe (.int i) (.int j) = some (.bl (!(i == j))) := by simp [gNe, D.lay, D.eqv, D.toP, PyData.eqv]
@[simp] theorem gEq_bl (i j : Bool) : gEq (.bl i) (.bl j) = some (.bl (i == j)) := by simp [gEq, D.lay, D.eqv, D.toP, PyData.eqv]
@[simp] theorem gNe_bl (i j : Bool) : gNe (.bl i) (.bl j) = some (.bl (!(i == j))) := by simp [gNe, D.lay, D.eqv, D.toP, PyData.eqv]
section
variable {X : Cx} {E : En} {W : WX}
def rEqA (K : PySem.W.Frag) : R2 := fun x y H Q => rEq x y H Q ∨ rEqD K x y H Q
def rNeA (K : PySem.W.Frag) : R2 := fun x y H Q => rNe x y H Q ∨ rNeD K x y H Q
theorem says_eqD {x y : D} {F H : Hp} {v w : V} {A B : List Addr} {Q : VK} {b : D} (fh : Ex F H) (rx : Rp E.k F H x v A) (ry : Rp E.k F H y w B) (e : (if x.lay 60 = true ∧ y.lay 60 = true then some (D.bl (x.eqv y)) else none) = some b) (g : GOk E F H Q b) : rEqA E.k.K v w H Q := by
  obtain ⟨z, e⟩ := if_some e
  cases e
  exact .inr ⟨x.toP, y.toP, Rp.dp fh 60 x v A z.1 rx, Rp.dp fh 60 y w B z.2 ry, D.lay_shaped z.1, D.lay_shaped z.2, g.scal fh fun _ _ => ⟨rfl, rfl⟩⟩
theorem says_neD {x y : D} {F H : Hp} {v w : V} {A B : List Addr} {Q : VK} {b : D} (fh : Ex F H) (rx : Rp E.k F H x v A) (ry : Rp E.k F H y w B) (e : (if x.lay 60 = true ∧ y.lay 60 = true then some (D.bl (!(x.eqv y))) else none) = some b) (g : GOk E F H Q b) : rNeA E.k.K v w H Q := by
  obtain ⟨z, e⟩ := if_some e
  cases e
  exact .inr ⟨x.toP, y.toP, Rp.dp fh 60 x v A z.1 rx, Rp.dp fh 60 y w B z.2 ry, D.lay_shaped z.1, D.lay_shaped z.2, g.scal fh fun _ _ => ⟨rfl, rfl⟩⟩
theorem says_eq : Says2 E (rEqA E.k.K) gEq := by
  intro F H x y v w A B Q b fh rx ry e g
  unfold gEq at e
  split at e
  · cases e
    rw [rx.1, ry.1]
    exact .inl ⟨rfl, by rw [dec_str]; exact g.scal fh fun _ _ => ⟨rfl, rfl⟩⟩
  · cases e
    rw [rx.1, ry.1]
    exact .inl ⟨rfl, g.scal (d := .bl false) fh fun _ _ => ⟨by simp, rfl⟩⟩
  · cases e
    rw [rx.1, ry.1]
    exact .inl ⟨rfl, g.scal (d := .bl false) fh fun _ _ => ⟨by simp, rfl⟩⟩
  · exact says_eqD fh rx ry e g
theorem says_ne : Says2 E (rNeA E.k.K) gNe := by
  intro F H x y v w A B Q b fh rx ry e g
  unfold gNe at e
  split at e
  · cases e
    rw [rx.1, ry.1]
    exact .inl ⟨rfl, by rw [dec_str]; exact g.scal fh fun _ _ => ⟨rfl, rfl⟩⟩
  · exact says_neD fh rx ry e g
theorem op_eqA (hu : X.A.units + 64 < cLine) : OpR X (compareOp .Eq) (rEqA X.K) := op_eq.or (op_eqD hu)
theorem op_neA (hu : X.A.units + 64 < cLine) : OpR X (compareOp .NotEq) (rNeA X.K) := op_ne.or (op_neD hu)

/-! ### comparisons as values -/
theorem eo_cmp {a b : Expr} {op : CmpOp} {r : R2} {g : D → D → Option D} {fa fb : Env → R D} {pos : Pos} (ho : OpR X (compareOp op) r) (hg : Says2 E r g) (hm : behindInMarks op b = false) (ha : EV X E W a fa) (hb : EV X E W b fb) : EO X E W (.Compare a [op] [b] pos) (e2 g fa fb) :=
  ⟨pe_mono (pe_cmpR ho ha.pe hb.pe hm) fun _ _ _ h => says2 hg h⟩
/-- an order of two ints -/
def gCmp (c : Int → Int → Bool) : D → D → Option D
  | .int i, .int j => some (.bl (c i j))
  | _, _ => none
@[simp] theorem gCmp_int (c : Int → Int → Bool) (i j : Int) : gCmp c (.int i) (.int j) = some (.bl (c i j)) := rfl
theorem says_cmp {c : Int → Int → Bool} : Says2 E (rI0 fun i j => .bl (c i j)) (gCmp c) := by
  intro F H x y v w A B Q d fh rx ry e g
  cases x with
  | int i =>
    cases y with
    | int j =>
      cases e
      exact ⟨i, j, rx.1, ry.1, g.scal fh fun _ _ => ⟨rfl, rfl⟩⟩
    | _ => cases e
  | _ => cases e
abbrev gLt := gCmp fun i j => decide (i < j)
abbrev gLe := gCmp fun i j => decide (i ≤ j)
abbrev gGt := gCmp fun i j => decide (j < i)
abbrev gGe := gCmp fun i j => decide (j ≤ i)
section
variable {a b c : Expr} {fa fb fc : Env → R D} {pos : Pos}
theorem eo_lt (ha : EV X E W a fa) (hb : EV X E W b fb) : EO X E W (.Compare a [.Lt] [b] pos) (e2 gLt fa fb) := eo_cmp op_lt says_cmp (nomark b) ha hb
theorem eo_le (ha : EV X E W a fa) (hb : EV X E W b fb) : EO X E W (.Compare a [.LtE] [b] pos) (e2 gLe fa fb) := eo_cmp op_le says_cmp (nomark b) ha hb
theorem eo_gt (ha : EV X E W a fa) (hb : EV X E W b fb) : EO X E W (.Compare a [.Gt] [b] pos) (e2 gGt fa fb) := eo_cmp op_gt says_cmp (nomark b) ha hb
theorem eo_ge (ha : EV X E W a fa) (hb : EV X E W b fb) : EO X E W (.Compare a [.GtE] [b] pos) (e2 gGe fa fb) := eo_cmp op_ge says_cmp (nomark b) ha hb
theorem eo_eq (hK : E.k.K = X.K) (hu : X.A.units + 64 < cLine) (ha : EV X E W a fa) (hb : EV X E W b fb) : EO X E W (.Compare a [.Eq] [b] pos) (e2 gEq fa fb) := eo_cmp (op_eqA hu) (by rw [← hK]; exact says_eq) (nomark b) ha hb
theorem eo_ne (hK : E.k.K = X.K) (hu : X.A.units + 64 < cLine) (ha : EV X E W a fa) (hb : EV X E W b fb) : EO X E W (.Compare a [.NotEq] [b] pos) (e2 gNe fa fb) := eo_cmp (op_neA hu) (by rw [← hK]; exact says_ne) (nomark b) ha hb
def isNon : D → Bool
  | .non => true
  | _ => false
@[simp] theorem isNon_non : isNon .non = true := rfl
@[simp] theorem isNon_int (i : Int) : isNon (.int i) = false := rfl
@[simp] theorem isNon_bl (i : Bool) : isNon (.bl i) = false := rfl
@[simp] theorem isNon_str (i : Str) : isNon (.str i) = false := rfl
@[simp] theorem isNon_tup (i : List D) : isNon (.tup i) = false := rfl
@[simp] theorem isNon_lst (o : Bool) (i : List D) : isNon (.lst o i) = false := rfl
theorem Rp.non_iff {k : Kx} {F H : Hp} : ∀ {d : D} {v : V} {A : List Addr}, Rp k F H d v A → decide (v = .non) = isNon d
  | .non, _, _, h => by rw [h.1]; rfl
  | .bl _, _, _, h => by rw [h.1]; rfl
  | .int _, _, _, h => by rw [h.1]; rfl
  | .str _, _, _, h => by rw [h.1]; rfl
  | .tup _, _, _, h => by obtain ⟨a, _, e, _⟩ := h; rw [e]; rfl
  | .lst _ _, _, _, h => by obtain ⟨a, _, _, e, _⟩ := h; rw [e]; rfl
  | .scr _, _, _, h => by obtain ⟨a, _, e, _⟩ := h; rw [e]; rfl
  | .dic _ _ _, _, _, h => by obtain ⟨a, _, _, e, _⟩ := h; rw [e]; rfl
  | .dit _ _ _, _, _, h => by obtain ⟨a, _, _, e, _⟩ := h; rw [e]; rfl
  | .ins _ _ _, _, _, h => by obtain ⟨a, _, _, _, e, _⟩ := h; rw [e]; rfl
def gIs : D → D → Option D
  | x, .non => some (.bl (isNon x))
  | .bl a, .bl b => some (.bl (decide (a = b)))
  | _, _ => none
def gIsNot : D → D → Option D
  | x, .non => some (.bl (!isNon x))
  | .bl a, .bl b => some (.bl (!decide (a = b)))
  | _, _ => none
@[simp] theorem gIs_bl (a b : Bool) : gIs (.bl a) (.bl b) = some (.bl (decide (a = b))) := rfl
@[simp] theorem gIsNot_bl (a b : Bool) : gIsNot (.bl a) (.bl b) = some (.bl (!decide (a = b))) := rfl
@[simp] theorem gIs_eq (x : D) : gIs x .non = some (.bl (isNon x)) := rfl
@[simp] theorem gIsNot_eq (x : D) : gIsNot x .non = some (.bl (!isNon x)) := rfl
theorem eo_is (ha : EV X E W a fa) (hb : EV X E W b fb) : EO X E W (.Compare a [.Is] [b] pos) (e2 gIs fa fb) := by
  refine eo_cmp (op_isN.or op_is_bl) ?_ (nomark b) ha hb
  intro F H x y v w A B Q d fh rx ry e g
  cases y with
  | non =>
    cases e
    exact .inl ⟨ry.1, by rw [rx.non_iff]; exact g.scal fh fun _ _ => ⟨rfl, rfl⟩⟩
  | bl j =>
    cases x with
    | bl i =>
      cases e
      exact .inr ⟨i, j, rx.1, ry.1, g.scal fh fun _ _ => ⟨rfl, rfl⟩⟩
    | _ => cases e
  | _ => cases x <;> cases e
theorem eo_isNot (ha : EV X E W a fa) (hb : EV X E W b fb) : EO X E W (.Compare a [.IsNot] [b] pos) (e2 gIsNot fa fb) := by
  refine eo_cmp (op_notN.or op_isnot_bl) ?_ (nomark b) ha hb
  intro F H x y v w A B Q d fh rx ry e g
  cases y with
  | non =>
    cases e
    exact .inl ⟨ry.1, by rw [rx.non_iff]; exact g.scal fh fun _ _ => ⟨rfl, rfl⟩⟩
  | bl j =>
    cases x with
    | bl i =>
      cases e
      exact .inr ⟨i, j, rx.1, ry.1, g.scal fh fun _ _ => ⟨rfl, rfl⟩⟩
    | _ => cases e
  | _ => cases x <;> cases e
/-- a op1 b op2 c -/
def e3 (g g' : D → D → Option D) (fa fb fc : Env → R D) : Env → R D := fun ρ => (fa ρ).bind fun x => (fb ρ).bind fun y => (R.opt (g x y)).bind fun z =>
  match z with
  | .bl true => (fc ρ).bind fun w => R.opt (g' y w)
  | .bl false => .ok (.bl false)
  | _ => .no
theorem eo_chain {op op' : CmpOp} {r r' : R2} {g g' : D → D → Option D} (ho : OpR X (compareOp op) r) (hg : Says2 E r g) (ho' : OpR X (compareOp op') r') (hg' : Says2 E r' g') (hm : lastMarks [op, op'] [b, c] = false) (ha : EV X E W a fa) (hb : EV X E W b fb) (hc : EV X E W c fc) :
    EO X E W (.Compare a [op, op'] [b, c] pos) (e3 g g' fa fb fc) := by
  refine ⟨pe_mono (pe_chain ho ho' ha.pe hb.pe hc.pe hm) fun σ H Q h => ?_⟩
  obtain ⟨F, ρ, s, q⟩ := h
  refine ⟨F, ρ, s, Res.mono q.bind (fun x _ q F1 H1 v A t1 r1 => ?_) fun c _ z F' H' t => z F' H' t⟩
  refine ⟨F1, ρ, s.tr t1, Res.mono q.bind (fun y _ q F2 H2 w B t2 r2 => ?_) fun c _ z F' H' t => z F' H' (t1.trans t)⟩
  obtain ⟨d, e, p⟩ := Res.opt q.bind
  have t12 := t1.trans t2
  refine hg F2 H2 x y v w A B _ d t2.fh (r1.tr t2) r2 e fun F3 H3 v3 A3 t3 r3 n3 u3 => ?_
  cases d with
  | bl k =>
    refine ⟨k, r3.1, ?_⟩
    cases k with
    | true =>
      rw [if_pos rfl]
      refine ⟨F3, ρ, (s.tr t12).tr t3, Res.mono (Res.bind p) (fun z _ q F4 H4 v4 A4 t4 r4 => ?_) fun c _ z F' H' t => z F' H' ((t12.trans t3).trans t)⟩
      obtain ⟨d', e', p'⟩ := Res.opt q
      have t34 := t3.trans t4
      exact hg' F4 H4 y z w v4 B A4 Q d' t4.fh (r2.tr t34) r4 e' (GOk.back (F := F) (H := H) (F1 := F4) (H1 := H4) p' (t12.trans t34))
    | false =>
      rw [if_neg Bool.false_ne_true]
      exact p F3 H3 (.bl false) [] (t12.trans t3) ⟨rfl, rfl⟩ .nil fun _ z => nomatch z
  | _ => exact (show False from p).elim
end

/-! ### tests -/
def asT : D → Option Bool
  | .non => some false
  | .bl b => some b
  | .int i => some (i != 0)
  | .str x => if x.length ≤ 16777216 then some ((x.length : Int) != 0) else none
  | .lst _ xs => some (!xs.isEmpty)
  | .tup xs => some (!xs.isEmpty)
  | _ => none
def eT (f : Env → R D) : Env → R Bool := fun ρ => (f ρ).bind fun d => R.opt (asT d)
@[simp] theorem eT_eq (f : Env → R D) (ρ : Env) : eT f ρ = (f ρ).bind fun d => R.opt (asT d) := rfl
@[simp] theorem asT_bl (b : Bool) : asT (.bl b) = some b := rfl
@[simp] theorem asT_int (b : Int) : asT (.int b) = some (b != 0) := rfl
@[simp] theorem asT_non : asT .non = some false := rfl
@[simp] theorem asT_lst (o : Bool) (xs : List D) : asT (.lst o xs) = some (!xs.isEmpty) := rfl
@[simp] theorem asT_tup (xs : List D) : asT (.tup xs) = some (!xs.isEmpty) := rfl
theorem isEmpty_len {α β : Type} {xs : List α} {ys : List β} (h : xs.length = ys.length) : xs.isEmpty = ys.isEmpty := by
  cases xs with
  | nil => cases ys with
    | nil => rfl
    | cons _ _ => cases h
  | cons _ _ => cases ys with
    | nil => cases h
    | cons _ _ => rfl
theorem Rp.tru {k : Kx} {F H : Hp} (fh : Ex F H) {d : D} {v : V} {A : List Addr} {b : Bool} (h : Rp k F H d v A) (e : asT d = some b) : TruV k.K v H b := by
  cases d with
  | non => cases e; rw [h.1]; exact rfl
  | bl _ => cases e; rw [h.1]; exact rfl
  | int _ => cases e; rw [h.1]; exact rfl
  | str x =>
    obtain ⟨z, e⟩ := if_some e
    cases e
    rw [h.1]
    exact ⟨big_le z, rfl⟩
  | lst o xs =>
    cases e
    obtain ⟨a, vs, B, rfl, s, r⟩ := Rp.lstW fh h
    exact .inl ⟨vs, .inl (.inl s), by rw [isEmpty_len r.len]⟩
  | tup xs =>
    cases e
    obtain ⟨a, vs, rfl, s, r⟩ := h
    exact .inr (.inl ⟨vs, ex_t fh s, by rw [isEmpty_len r.len]⟩)
  | _ => cases e
theorem et_tru (hK : E.k.K = X.K) {a : Expr} {fa : Env → R D} (ha : EV X E W a fa) (he : ∀ whole, isTrue a X.env whole = (do let v ← whole; standAt a.pos; holding [v] (truthy v)) := by intro _; rfl) : ET X E W a (eT fa) := by
  refine ⟨pt_mono (pt_truth ha.pe he) fun σ H Q h => ?_⟩
  obtain ⟨F, ρ, s, q⟩ := h
  refine ⟨F, ρ, s, Res.mono q.bind (fun x _ q F1 H1 v A t1 r1 => ?_) fun c _ z F' H' t => z F' H' t⟩
  obtain ⟨b, e, p⟩ := Res.opt q
  exact ⟨b, by rw [← hK]; exact r1.tru t1.fh e, p F1 H1 t1⟩
/-- a comparison as a test -/
theorem tT_of {fa : Env → R D} {t : TE} (hb : ∀ ρ d, fa ρ = .ok d → ∃ b, d = .bl b) (h : ∀ σ H Q, tO E W fa σ H Q → t σ H Q) {σ : L2.St} {H : Hp} {Q : Bool → Hp → Prop} (q : tT E W (eT fa) σ H Q) : t σ H fun x H' => ∃ k, x = .bl k ∧ Q k H' := by
  obtain ⟨F, ρ, s, q⟩ := q
  refine h σ H _ ⟨F, ρ, s, Res.mono q.bind (fun x e q F1 H1 v A t1 r1 _ _ => ?_) fun c _ z F' H' t => z F' H' t⟩
  obtain ⟨b, rfl⟩ := hb ρ x e
  exact ⟨b, r1.1, q F1 H1 t1⟩
theorem e2_bl {g : D → D → Option D} (hg : ∀ x y d, g x y = some d → ∃ b, d = .bl b) {fa fb : Env → R D} (ρ : Env) (d : D) (e : e2 g fa fb ρ = .ok d) : ∃ b, d = .bl b := by
  rw [e2_eq] at e
  cases ea : fa ρ with
  | ok x =>
    rw [ea, R.bind_ok] at e
    cases eb : fb ρ with
    | ok y =>
      rw [eb, R.bind_ok] at e
      cases eg : g x y with
      | some z =>
        rw [eg] at e
        cases e
        exact hg x y d eg
      | none => rw [eg] at e; cases e
    | _ => rw [eb] at e; cases e
  | _ => rw [ea] at e; cases e
theorem et_cmp {a b : Expr} {op : CmpOp} {r : R2} {g : D → D → Option D} {fa fb : Env → R D} {pos : Pos} (ho : OpR X (compareOp op) r) (hg : Says2 E r g) (hbl : ∀ x y d, g x y = some d → ∃ b, d = .bl b) (hm : behindInMarks op b = false) (ha : EV X E W a fa) (hb : EV X E W b fb) :
    ET X E W (.Compare a [op] [b] pos) (eT (e2 g fa fb)) :=
  ⟨pt_mono (pt_cmpR ho ha.pe hb.pe hm) fun _ _ _ h => tT_of (e2_bl hbl) (fun _ _ _ q => says2 hg q) h⟩
theorem gCmp_bl {c : Int → Int → Bool} (x y d : D) (e : gCmp c x y = some d) : ∃ b, d = .bl b := by
  cases x with
  | int i =>
    cases y with
    | int j => cases e; exact ⟨_, rfl⟩
    | _ => cases e
  | _ => cases e
theorem gEq_isbl (x y d : D) (e : gEq x y = some d) : ∃ b, d = .bl b := by
  unfold gEq at e
  split at e <;> first | (cases e; exact ⟨_, rfl⟩) | (obtain ⟨_, e⟩ := if_some e; cases e; exact ⟨_, rfl⟩)
theorem gNe_isbl (x y d : D) (e : gNe x y = some d) : ∃ b, d = .bl b := by
  unfold gNe at e
  split at e <;> first | (cases e; exact ⟨_, rfl⟩) | (obtain ⟨_, e⟩ := if_some e; cases e; exact ⟨_, rfl⟩)
theorem gIs_isbl (x y d : D) (e : gIs x y = some d) : ∃ b, d = .bl b := by
  unfold gIs at e
  split at e <;> first | (cases e; exact ⟨_, rfl⟩) | cases e
theorem gIsNot_isbl (x y d : D) (e : gIsNot x y = some d) : ∃ b, d = .bl b := by
  unfold gIsNot at e
  split at e <;> first | (cases e; exact ⟨_, rfl⟩) | cases e
section
variable {a b c : Expr} {fa fb fc : Env → R D} {pos : Pos}
theorem et_lt (ha : EV X E W a fa) (hb : EV X E W b fb) : ET X E W (.Compare a [.Lt] [b] pos) (eT (e2 gLt fa fb)) := et_cmp op_lt says_cmp gCmp_bl (nomark b) ha hb
theorem et_le (ha : EV X E W a fa) (hb : EV X E W b fb) : ET X E W (.Compare a [.LtE] [b] pos) (eT (e2 gLe fa fb)) := et_cmp op_le says_cmp gCmp_bl (nomark b) ha hb
theorem et_gt (ha : EV X E W a fa) (hb : EV X E W b fb) : ET X E W (.Compare a [.Gt] [b] pos) (eT (e2 gGt fa fb)) := et_cmp op_gt says_cmp gCmp_bl (nomark b) ha hb
theorem et_ge (ha : EV X E W a fa) (hb : EV X E W b fb) : ET X E W (.Compare a [.GtE] [b] pos) (eT (e2 gGe fa fb)) := et_cmp op_ge says_cmp gCmp_bl (nomark b) ha hb
theorem et_eq (hK : E.k.K = X.K) (hu : X.A.units + 64 < cLine) (ha : EV X E W a fa) (hb : EV X E W b fb) : ET X E W (.Compare a [.Eq] [b] pos) (eT (e2 gEq fa fb)) := et_cmp (op_eqA hu) (by rw [← hK]; exact says_eq) gEq_isbl (nomark b) ha hb
theorem et_ne (hK : E.k.K = X.K) (hu : X.A.units + 64 < cLine) (ha : EV X E W a fa) (hb : EV X E W b fb) : ET X E W (.Compare a [.NotEq] [b] pos) (eT (e2 gNe fa fb)) := et_cmp (op_neA hu) (by rw [← hK]; exact says_ne) gNe_isbl (nomark b) ha hb
theorem et_is (ha : EV X E W a fa) (hb : EV X E W b fb) : ET X E W (.Compare a [.Is] [b] pos) (eT (e2 gIs fa fb)) := by
  refine et_cmp (op_isN.or op_is_bl) ?_ gIs_isbl (nomark b) ha hb
  intro F H x y v w A B Q d fh rx ry e g
  cases y with
  | non =>
    cases e
    exact .inl ⟨ry.1, by rw [rx.non_iff]; exact g.scal fh fun _ _ => ⟨rfl, rfl⟩⟩
  | bl j =>
    cases x with
    | bl i =>
      cases e
      exact .inr ⟨i, j, rx.1, ry.1, g.scal fh fun _ _ => ⟨rfl, rfl⟩⟩
    | _ => cases e
  | _ => cases x <;> cases e
theorem et_isNot (ha : EV X E W a fa) (hb : EV X E W b fb) : ET X E W (.Compare a [.IsNot] [b] pos) (eT (e2 gIsNot fa fb)) := by
  refine et_cmp (op_notN.or op_isnot_bl) ?_ gIsNot_isbl (nomark b) ha hb
  intro F H x y v w A B Q d fh rx ry e g
  cases y with
  | non =>
    cases e
    exact .inl ⟨ry.1, by rw [rx.non_iff]; exact g.scal fh fun _ _ => ⟨rfl, rfl⟩⟩
  | bl j =>
    cases x with
    | bl i =>
      cases e
      exact .inr ⟨i, j, rx.1, ry.1, g.scal fh fun _ _ => ⟨rfl, rfl⟩⟩
    | _ => cases e
  | _ => cases x <;> cases e
theorem et_chain {op op' : CmpOp} {r r' : R2} {g g' : D → D → Option D} (ho : OpR X (compareOp op) r) (hg : Says2 E r g) (ho' : OpR X (compareOp op') r') (hg' : Says2 E r' g') (hm : lastMarks [op, op'] [b, c] = false) (hbl : ∀ x y d, g' x y = some d → ∃ b, d = .bl b) (ha : EV X E W a fa) (hb : EV X E W b fb) (hc : EV X E W c fc) :
    ET X E W (.Compare a [op, op'] [b, c] pos) (eT (e3 g g' fa fb fc)) := by
  refine ⟨pt_mono (pt_chain ho ho' ha.pe hb.pe hc.pe hm) fun σ H Q h => tT_of (fa := e3 g g' fa fb fc) (fun ρ d e => ?_) (fun σ H Q h => ?_) h⟩
  · unfold e3 at e
    cases ea : fa ρ with
    | ok x =>
      rw [ea, R.bind_ok] at e
      cases eb : fb ρ with
      | ok y =>
        rw [eb, R.bind_ok] at e
        cases eg : g x y with
        | some z =>
          rw [eg, R.opt_some, R.bind_ok] at e
          split at e
          · cases ec : fc ρ with
            | ok w =>
              rw [ec, R.bind_ok] at e
              cases eg' : g' y w with
              | some z' =>
                rw [eg'] at e
                cases e
                exact hbl _ _ _ eg'
              | none => rw [eg'] at e; cases e
            | _ => rw [ec] at e; cases e
          · cases e; exact ⟨_, rfl⟩
          · cases e
        | none => rw [eg] at e; cases e
      | _ => rw [eb] at e; cases e
    | _ => rw [ea] at e; cases e
  · obtain ⟨F, ρ, s, q⟩ := h
    refine ⟨F, ρ, s, Res.mono q.bind (fun x _ q F1 H1 v A t1 r1 => ?_) fun c _ z F' H' t => z F' H' t⟩
    refine ⟨F1, ρ, s.tr t1, Res.mono q.bind (fun y _ q F2 H2 w B t2 r2 => ?_) fun c _ z F' H' t => z F' H' (t1.trans t)⟩
    obtain ⟨d, e, p⟩ := Res.opt q.bind
    have t12 := t1.trans t2
    refine hg F2 H2 x y v w A B _ d t2.fh (r1.tr t2) r2 e fun F3 H3 v3 A3 t3 r3 n3 u3 => ?_
    cases d with
    | bl k =>
      refine ⟨k, r3.1, ?_⟩
      cases k with
      | true =>
        rw [if_pos rfl]
        refine ⟨F3, ρ, (s.tr t12).tr t3, Res.mono (Res.bind p) (fun z _ q F4 H4 v4 A4 t4 r4 => ?_) fun c _ z F' H' t => z F' H' ((t12.trans t3).trans t)⟩
        obtain ⟨d', e', p'⟩ := Res.opt q
        have t34 := t3.trans t4
        exact hg' F4 H4 y z w v4 B A4 Q d' t4.fh (r2.tr t34) r4 e' (GOk.back (F := F) (H := H) (F1 := F4) (H1 := H4) p' (t12.trans t34))
      | false =>
        rw [if_neg Bool.false_ne_true]
        exact p F3 H3 (.bl false) [] (t12.trans t3) ⟨rfl, rfl⟩ .nil fun _ z => nomatch z
    | _ => exact (show False from p).elim
end
/-! and, or, not -/
def tNotF (f : Env → R Bool) : Env → R Bool := fun ρ => (f ρ).bind fun b => .ok (!b)
def tAndF (f g : Env → R Bool) : Env → R Bool := fun ρ => (f ρ).bind fun b => if b = true then g ρ else .ok false
def tOrF (f g : Env → R Bool) : Env → R Bool := fun ρ => (f ρ).bind fun b => if b = true then .ok true else g ρ
@[simp] theorem tNotF_eq (f : Env → R Bool) (ρ : Env) : tNotF f ρ = (f ρ).bind fun b => .ok (!b) := rfl
@[simp] theorem tAndF_eq (f g : Env → R Bool) (ρ : Env) : tAndF f g ρ = (f ρ).bind fun b => if b = true then g ρ else .ok false := rfl
@[simp] theorem tOrF_eq (f g : Env → R Bool) (ρ : Env) : tOrF f g ρ = (f ρ).bind fun b => if b = true then .ok true else g ρ := rfl
section
variable {a b : Expr} {rest : List Expr} {f g : Env → R Bool} {pos : Pos}
theorem et_not (h : ET X E W a f) : ET X E W (.UnaryOp .Not a pos) (tNotF f) := by
  refine ⟨pt_mono (pt_not h.pt) fun σ H Q h => ?_⟩
  obtain ⟨F, ρ, s, q⟩ := h
  exact ⟨F, ρ, s, Res.mono q.bind (fun x _ q => q) fun c _ z F' H' t => z F' H' t⟩
theorem tAnd_of {t u : TT} (h1 : ∀ σ H Q, tT E W f σ H Q → t σ H Q) (h2 : ∀ σ H Q, tT E W g σ H Q → u σ H Q) {σ : L2.St} {H : Hp} {Q : Bool → Hp → Prop} (h : tT E W (tAndF f g) σ H Q) : tAnd t u σ H Q := by
  obtain ⟨F, ρ, s, q⟩ := h
  refine h1 σ H _ ⟨F, ρ, s, Res.mono q.bind (fun x _ q F1 H1 t1 => ?_) fun c _ z F' H' t => z F' H' t⟩
  cases x with
  | true => exact h2 σ H1 _ ⟨F1, ρ, s.tr t1, Res.mono q (fun y _ q F2 H2 t2 => q F2 H2 (t1.trans t2)) fun c _ z F' H' t => z F' H' (t1.trans t)⟩
  | false => exact q F1 H1 t1
theorem tOr_of {t u : TT} (h1 : ∀ σ H Q, tT E W f σ H Q → t σ H Q) (h2 : ∀ σ H Q, tT E W g σ H Q → u σ H Q) {σ : L2.St} {H : Hp} {Q : Bool → Hp → Prop} (h : tT E W (tOrF f g) σ H Q) : tOr t u σ H Q := by
  obtain ⟨F, ρ, s, q⟩ := h
  refine h1 σ H _ ⟨F, ρ, s, Res.mono q.bind (fun x _ q F1 H1 t1 => ?_) fun c _ z F' H' t => z F' H' t⟩
  cases x with
  | false => exact h2 σ H1 _ ⟨F1, ρ, s.tr t1, Res.mono q (fun y _ q F2 H2 t2 => q F2 H2 (t1.trans t2)) fun c _ z F' H' t => z F' H' (t1.trans t)⟩
  | true => exact q F1 H1 t1
theorem ew_and1 (h : ET X E W a f) : EW X E W (.BoolOp .And [a] pos) f := ⟨pw_and1 h.pt⟩
theorem ew_or1 (h : ET X E W a f) : EW X E W (.BoolOp .Or [a] pos) f := ⟨pw_or1 h.pt⟩
theorem ew_and (ha : ET X E W a f) (hb : EW X E W (.BoolOp .And (b :: rest) pos) g) : EW X E W (.BoolOp .And (a :: b :: rest) pos) (tAndF f g) :=
  ⟨pw_mono (pw_and ha.pt hb.pw) fun _ _ _ h => tAnd_of (fun _ _ _ z => z) (fun _ _ _ z => z) h⟩
theorem ew_or (ha : ET X E W a f) (hb : EW X E W (.BoolOp .Or (b :: rest) pos) g) : EW X E W (.BoolOp .Or (a :: b :: rest) pos) (tOrF f g) :=
  ⟨pw_mono (pw_or ha.pt hb.pw) fun _ _ _ h => tOr_of (fun _ _ _ z => z) (fun _ _ _ z => z) h⟩
theorem EW.t {e : Expr} (h : EW X E W e f) : ET X E W e f := ⟨h.pw.pt⟩
end
/-! .. as values, by truth -/
def eNot (f : Env → R D) : Env → R D := fun ρ => (f ρ).bind fun d => (R.opt (asT d)).bind fun b => .ok (.bl (!b))
def eAnd (f g : Env → R D) : Env → R D := fun ρ => (f ρ).bind fun d => (R.opt (asT d)).bind fun b => if b = true then g ρ else .ok d
def eOr (f g : Env → R D) : Env → R D := fun ρ => (f ρ).bind fun d => (R.opt (asT d)).bind fun b => if b = true then .ok d else g ρ
@[simp] theorem eNot_eq (f : Env → R D) (ρ : Env) : eNot f ρ = (f ρ).bind fun d => (R.opt (asT d)).bind fun b => .ok (.bl (!b)) := rfl
@[simp] theorem eAnd_eq (f g : Env → R D) (ρ : Env) : eAnd f g ρ = (f ρ).bind fun d => (R.opt (asT d)).bind fun b => if b = true then g ρ else .ok d := rfl
@[simp] theorem eOr_eq (f g : Env → R D) (ρ : Env) : eOr f g ρ = (f ρ).bind fun d => (R.opt (asT d)).bind fun b => if b = true then .ok d else g ρ := rfl
section
variable {a b : Expr} {rest : List Expr} {f g : Env → R D} {pos : Pos}
theorem eo_not (hK : E.k.K = X.K) (h : EV X E W a f) : EO X E W (.UnaryOp .Not a pos) (eNot f) := by
  refine ⟨pe_mono (pe_notT h.pe) fun σ H Q h => ?_⟩
  obtain ⟨F, ρ, s, q⟩ := h
  refine ⟨F, ρ, s, Res.mono q.bind (fun x _ q F1 H1 v A t1 r1 => ?_) fun c _ z F' H' t => z F' H' t⟩
  obtain ⟨b, e, p⟩ := Res.opt q.bind
  exact ⟨b, by rw [← hK]; exact r1.tru t1.fh e, p F1 H1 (.bl (!b)) [] t1 ⟨rfl, rfl⟩ .nil fun _ z => nomatch z⟩
theorem ev_one {op : BoolOp} (h : EV X E W a f) : EV X E W (.BoolOp op [a] pos) f := ⟨pe_one h.pe⟩
theorem ev_and (hK : E.k.K = X.K) (h : EV X E W a f) (hb : EV X E W (.BoolOp .And (b :: rest) pos) g) : EV X E W (.BoolOp .And (a :: b :: rest) pos) (eAnd f g) := by
  refine ⟨pe_mono (pe_andT h.pe hb.pe) fun σ H Q h => ?_⟩
  obtain ⟨F, ρ, s, q⟩ := h
  refine ⟨F, ρ, s, Res.mono q.bind (fun x _ q F1 H1 v A t1 r1 => ?_) fun c _ z F' H' t => z F' H' t⟩
  obtain ⟨b, e, p⟩ := Res.opt q.bind
  refine ⟨b, by rw [← hK]; exact r1.tru t1.fh e, ?_⟩
  cases b with
  | true => exact ⟨F1, ρ, s.tr t1, Res.mono p (fun y _ q F2 H2 v A t2 r => q F2 H2 v A (t1.trans t2) r) fun c _ z F' H' t => z F' H' (t1.trans t)⟩
  | false => exact p F1 H1 v A t1 r1
theorem ev_or (hK : E.k.K = X.K) (h : EV X E W a f) (hb : EV X E W (.BoolOp .Or (b :: rest) pos) g) : EV X E W (.BoolOp .Or (a :: b :: rest) pos) (eOr f g) := by
  refine ⟨pe_mono (pe_orT h.pe hb.pe) fun σ H Q h => ?_⟩
  obtain ⟨F, ρ, s, q⟩ := h
  refine ⟨F, ρ, s, Res.mono q.bind (fun x _ q F1 H1 v A t1 r1 => ?_) fun c _ z F' H' t => z F' H' t⟩
  obtain ⟨b, e, p⟩ := Res.opt q.bind
  refine ⟨b, by rw [← hK]; exact r1.tru t1.fh e, ?_⟩
  cases b with
  | false => exact ⟨F1, ρ, s.tr t1, Res.mono p (fun y _ q F2 H2 v A t2 r => q F2 H2 v A (t1.trans t2) r) fun c _ z F' H' t => z F' H' (t1.trans t)⟩
  | true => exact p F1 H1 v A t1 r1
end
def eIf (t : Env → R Bool) (f g : Env → R D) : Env → R D := fun ρ => (t ρ).bind fun b => if b = true then f ρ else g ρ
@[simp] theorem eIf_eq (t : Env → R Bool) (f g : Env → R D) (ρ : Env) : eIf t f g ρ = (t ρ).bind fun b => if b = true then f ρ else g ρ := rfl
section
variable {a b c : Expr} {t : Env → R Bool} {f g : Env → R D} {pos : Pos}
theorem ev_if (hc : ET X E W c t) (ha : EV X E W a f) (hb : EV X E W b g) : EV X E W (.IfExp c a b pos) (eIf t f g) := by
  refine ⟨pe_mono (pe_ifExp hc.pt ha.pe hb.pe) fun σ H Q h => ?_⟩
  obtain ⟨F, ρ, s, q⟩ := h
  refine ⟨F, ρ, s, Res.mono q.bind (fun x _ q F1 H1 t1 => ?_) fun c _ z F' H' t => z F' H' t⟩
  cases x with
  | true => exact ⟨F1, ρ, s.tr t1, Res.mono q (fun y _ q F2 H2 v A t2 r => q F2 H2 v A (t1.trans t2) r) fun c _ z F' H' t => z F' H' (t1.trans t)⟩
  | false => exact ⟨F1, ρ, s.tr t1, Res.mono q (fun y _ q F2 H2 v A t2 r => q F2 H2 v A (t1.trans t2) r) fun c _ z F' H' t => z F' H' (t1.trans t)⟩
theorem none_back {H H' : Hp} (e : Ex H H') {a : Addr} (h : H' a = none) : H a = none := by
  cases q : H a with
  | none => rfl
  | some o => rw [e a o q] at h; cases h
theorem eo_if (hc : ET X E W c t) (ha : EO X E W a f) (hb : EO X E W b g) : EO X E W (.IfExp c a b pos) (eIf t f g) := by
  refine ⟨pe_mono (pe_ifExp hc.pt ha.pe hb.pe) fun σ H Q h => ?_⟩
  obtain ⟨F, ρ, s, q⟩ := h
  refine ⟨F, ρ, s, Res.mono q.bind (fun x _ q F1 H1 t1 => ?_) fun c _ z F' H' t => z F' H' t⟩
  cases x with
  | true => exact ⟨F1, ρ, s.tr t1, Res.mono q (fun y _ q F2 H2 v A t2 r n u => q F2 H2 v A (t1.trans t2) r n fun a ha => none_back t1.hh (u a ha)) fun c _ z F' H' t => z F' H' (t1.trans t)⟩
  | false => exact ⟨F1, ρ, s.tr t1, Res.mono q (fun y _ q F2 H2 v A t2 r n u => q F2 H2 v A (t1.trans t2) r n fun a ha => none_back t1.hh (u a ha)) fun c _ z F' H' t => z F' H' (t1.trans t)⟩
end
end
end Dv
end
section
set_option maxRecDepth 100000
set_option maxHeartbeats 1000000
namespace Dv
open PySem PySem.Spec PyProof.Rows L2

section
variable {k : Kx} {F H F' H' : Hp}
/-- values that are looked at -/
abbrev Vw (k : Kx) (F H : Hp) : List V → List D → Prop := Paired fun v d => ∃ A, Rp k F H d v A
theorem Vw.tr (t : Tr F H F' H') : ∀ {vs : List V} {ds : List D}, Vw k F H vs ds → Vw k F' H' vs ds
  | _, _, .nil => .nil
  | _, _, .cons ⟨A, r⟩ s => .cons ⟨A, r.tr t⟩ (Vw.tr t s)
theorem Vw.rpl : ∀ {vs : List V} {ds : List D}, Vw k F H vs ds → ∃ A, RpL k F H ds vs A
  | _, _, .nil => ⟨[], rfl, rfl⟩
  | _, _, .cons ⟨A, r⟩ s => by
    obtain ⟨B, q⟩ := Vw.rpl s
    exact ⟨A ++ B, _, _, A, B, rfl, rfl, r, q⟩
theorem RpL.vw : ∀ {ds : List D} {vs : List V} {A : List Addr}, RpL k F H ds vs A → Vw k F H vs ds
  | [], _, _, h => by rw [h.1]; exact .nil
  | d :: ds, xs, A, h => by
    obtain ⟨v, vs, B, C, e1, e2, h1, h2⟩ := h
    rw [e1]
    exact .cons ⟨B, h1⟩ (RpL.vw h2)
theorem Vw.app : ∀ {vs ws : List V} {ds es : List D}, Vw k F H vs ds → Vw k F H ws es → Vw k F H (vs ++ ws) (ds ++ es)
  | _, _, _, _, .nil, s => s
  | _, _, _, _, .cons r t, s => .cons r (Vw.app t s)
end
section
variable {X : Cx} {E : En} {W : WX}
/-! ### argument lists -/
def aNil : Env → R (List D) := fun _ => .ok []
def aV (f : Env → R D) (g : Env → R (List D)) : Env → R (List D) := fun ρ => (f ρ).bind fun x => (g ρ).bind fun xs => .ok (x :: xs)
/-- an own value: frozen -/
def aO (f : Env → R D) (g : Env → R (List D)) : Env → R (List D) := fun ρ => (f ρ).bind fun x => if x.cold = true then (g ρ).bind fun xs => .ok (x.frz :: xs) else .no
def items : D → Option (List D)
  | .lst _ xs => some xs
  | .tup xs => some xs
  | _ => none
@[simp] theorem items_lst (o : Bool) (xs : List D) : items (.lst o xs) = some xs := rfl
@[simp] theorem items_tup (xs : List D) : items (.tup xs) = some xs := rfl
def aS (f : Env → R D) (g : Env → R (List D)) : Env → R (List D) := fun ρ => (f ρ).bind fun x => (R.opt (items x)).bind fun ys => (g ρ).bind fun xs => .ok (ys ++ xs)
@[simp] theorem aNil_eq (ρ : Env) : aNil ρ = .ok [] := rfl
@[simp] theorem aV_eq (f : Env → R D) (g : Env → R (List D)) (ρ : Env) : aV f g ρ = (f ρ).bind fun x => (g ρ).bind fun xs => .ok (x :: xs) := rfl
@[simp] theorem aO_eq (f : Env → R D) (g : Env → R (List D)) (ρ : Env) : aO f g ρ = (f ρ).bind fun x => if x.cold = true then (g ρ).bind fun xs => .ok (x.frz :: xs) else .no := rfl
@[simp] theorem aS_eq (f : Env → R D) (g : Env → R (List D)) (ρ : Env) : aS f g ρ = (f ρ).bind fun x => (R.opt (items x)).bind fun ys => (g ρ).bind fun xs => .ok (ys ++ xs) := rfl
theorem tr_fz {F H F1 H1 : Hp} {A : List Addr} (t : Tr F H F1 H1) (n : ∀ a ∈ A, F1 a = none) (u : ∀ a ∈ A, H a = none) : Tr F H (fz F1 H1 A) H1 :=
  ⟨t.ff.trans (fz_ex n), t.hh, fz_exH t.fh, fun a e z => by
    by_cases q : a ∈ A
    · exact absurd (u a q) z
    · rw [fz_out q]; exact t.no a e z⟩
section
variable {e : Expr} {es : List Expr} {f : Env → R D} {g : Env → R (List D)} {p : Pos}
theorem ea_nil : EA X E W [] aNil := ⟨pa_mono pa_nil fun σ H Q ⟨F, ρ, s, q⟩ => q F H [] (Tr.refl s.fh) .nil⟩
theorem ea_v (h : EV X E W e f) (hr : EA X E W es g) (hs : starEach (e :: es) X.env = (false, eval e X.env) :: starEach es X.env := by rfl) : EA X E W (e :: es) (aV f g) := by
  refine ⟨pa_mono (pa_cons h.pe hr.pa hs) fun σ H Q h => ?_⟩
  obtain ⟨F, ρ, s, q⟩ := h
  refine ⟨F, ρ, s, Res.mono q.bind (fun x _ q F1 H1 v A t1 r1 => ?_) fun c _ z F' H' t => z F' H' t⟩
  exact ⟨F1, ρ, s.tr t1, Res.mono q.bind (fun xs _ q F2 H2 vs t2 r2 => q F2 H2 (v :: vs) (t1.trans t2) (.cons ⟨A, r1.tr t2⟩ r2)) fun c _ z F' H' t => z F' H' (t1.trans t)⟩
theorem ea_o (h : EO X E W e f) (hr : EA X E W es g) (hs : starEach (e :: es) X.env = (false, eval e X.env) :: starEach es X.env := by rfl) : EA X E W (e :: es) (aO f g) := by
  refine ⟨pa_mono (pa_cons h.pe hr.pa hs) fun σ H Q h => ?_⟩
  obtain ⟨F, ρ, s, q⟩ := h
  refine ⟨F, ρ, s, Res.mono q.bind (fun x _ q F1 H1 v A t1 r1 n1 u1 => ?_) fun c _ z F' H' t => z F' H' t⟩
  by_cases c : x.cold = true
  · rw [if_pos c] at q
    have n := fun a ha => (Rp.dom x v A r1 a ha).1
    have t1' := tr_fz t1 n u1
    have r1' : Rp E.k (fz F1 H1 A) H1 x.frz v [] := Rp.frz n x v A c (fun _ z => z) r1
    exact ⟨_, ρ, s.tr t1', Res.mono q.bind (fun xs _ q F2 H2 vs t2 r2 => q F2 H2 (v :: vs) (t1'.trans t2) (.cons ⟨[], r1'.tr t2⟩ r2)) fun c _ z F' H' t => z F' H' (t1'.trans t)⟩
  · rw [if_neg c] at q
    exact q.elim
theorem Rp.items (fh : Ex F H) {k : Kx} {d : D} {v : V} {A : List Addr} {ys : List D} (h : Rp k F H d v A) (e : items d = some ys) : ∃ a vs B, v = .ref a ∧ (SqT k.K H a vs ∨ SqL k.K H a vs) ∧ RpL k F H ys vs B := by
  cases d with
  | lst o xs =>
    cases e
    obtain ⟨a, vs, B, e, s, r⟩ := Rp.lstW fh h
    exact ⟨a, vs, B, e, .inr (.inl (.inl s)), r⟩
  | tup xs =>
    cases e
    obtain ⟨a, vs, e, s, r⟩ := h
    exact ⟨a, vs, A, e, .inl (ex_t fh s), r⟩
  | _ => cases e
theorem ea_s (hK : E.k.K = X.K) (h : EV X E W e f) (hr : EA X E W es g) (hs : starEach (.Starred e p :: es) X.env = (true, eval e X.env) :: starEach es X.env := by rfl) : EA X E W (.Starred e p :: es) (aS f g) := by
  refine ⟨pa_mono (StX.pa_star h.pe hr.pa hs) fun σ H Q h => ?_⟩
  obtain ⟨F, ρ, s, q⟩ := h
  refine ⟨F, ρ, s, Res.mono q.bind (fun x _ q F1 H1 v A t1 r1 => ?_) fun c _ z F' H' t => z F' H' t⟩
  obtain ⟨ys, ey, q⟩ := Res.opt q.bind
  obtain ⟨a, vs, B, e, s1, r⟩ := r1.items t1.fh ey
  refine ⟨a, vs, e, by rw [← hK]; exact s1, ?_⟩
  exact ⟨F1, ρ, s.tr t1, Res.mono q.bind (fun xs _ q F2 H2 ws t2 r2 => q F2 H2 (vs ++ ws) (t1.trans t2) (Vw.app (RpL.vw (r.tr t2)) r2)) fun c _ z F' H' t => z F' H' (t1.trans t)⟩

/-! ### displays -/
def eTup (g : Env → R (List D)) : Env → R D := fun ρ => (g ρ).bind fun ds => if D.pureL ds = true ∧ ds.length ≤ 16777216 then .ok (.tup ds) else .no
def eLst (g : Env → R (List D)) : Env → R D := fun ρ => (g ρ).bind fun ds => if D.pureL ds = true ∧ ds.length ≤ 16777216 then .ok (.lst true ds) else .no
@[simp] theorem eTup_eq (g : Env → R (List D)) (ρ : Env) : eTup g ρ = (g ρ).bind fun ds => if D.pureL ds = true ∧ ds.length ≤ 16777216 then .ok (.tup ds) else .no := rfl
@[simp] theorem eLst_eq (g : Env → R (List D)) (ρ : Env) : eLst g ρ = (g ρ).bind fun ds => if D.pureL ds = true ∧ ds.length ≤ 16777216 then .ok (.lst true ds) else .no := rfl
theorem eo_tup {x1 : Nat} (h : EA X E W es g) : EO X E W (.Tuple es x1 p) (eTup g) := by
  refine ⟨pe_mono (pe_tup h.pa) fun σ H Q h => ?_⟩
  obtain ⟨F, ρ, s, q⟩ := h
  refine ⟨F, ρ, s, Res.mono q.bind (fun ds _ q F1 H1 vs t1 r1 => ?_) fun c _ z F' H' t => z F' H' t⟩
  by_cases c : D.pureL ds = true ∧ ds.length ≤ 16777216
  · rw [if_pos c] at q
    obtain ⟨A, r⟩ := Vw.rpl r1
    have r' : RpL E.k F1 H1 ds vs [] := RpL.pure c.1 (.refl _) r
    exact ⟨big_le (by rw [← r.len]; exact c.2), fun p hp => GOk.tup (E := E) t1.fh (GOk.back (E := E) (F := F) (H := H) q t1) hp r'⟩
  · rw [if_neg c] at q
    exact q.elim
theorem eo_lst (h : EA X E W es g) : EO X E W (.List es p) (eLst g) := by
  refine ⟨pe_mono (pe_lst h.pa) fun σ H Q h => ?_⟩
  obtain ⟨F, ρ, s, q⟩ := h
  refine ⟨F, ρ, s, Res.mono q.bind (fun ds _ q F1 H1 vs t1 r1 => ?_) fun c _ z F' H' t => z F' H' t⟩
  by_cases c : D.pureL ds = true ∧ ds.length ≤ 16777216
  · rw [if_pos c] at q
    obtain ⟨A, r⟩ := Vw.rpl r1
    have r' : RpL E.k F1 H1 ds vs [] := RpL.pure c.1 (.refl _) r
    exact ⟨big_le (by rw [← r.len]; exact c.2), fun p hp => GOk.lst (E := E) t1.fh (GOk.back (E := E) (F := F) (H := H) q t1) hp r'⟩
  · rw [if_neg c] at q
    exact q.elim
end

/-! ### subscripts -/
def ixD {α : Type} (xs : List α) (i : Int) : Option α := if 0 ≤ i then xs[i.toNat]? else if -(xs.length : Int) ≤ i then xs[(i + xs.length).toNat]? else none
theorem ixD_atI {α : Type} (xs : List α) (i : Int) : atI xs i = ixD xs i := by
  unfold atI ixN ixD
  by_cases h : 0 ≤ i
  · rw [if_pos h, if_pos h]
    by_cases h2 : i < (xs.length : Int)
    · rw [if_pos h2]; rfl
    · rw [if_neg h2]
      exact (List.getElem?_eq_none (by omega)).symm
  · rw [if_neg h, if_neg h]
    by_cases h2 : -(xs.length : Int) ≤ i
    · rw [if_pos h2, if_pos h2]; rfl
    · rw [if_neg h2, if_neg h2]; rfl
theorem ixD_nat {α : Type} (xs : List α) (j : Nat) : ixD xs (j : Int) = xs[j]? := by
  unfold ixD
  rw [if_pos (by omega), Int.toNat_natCast]
theorem ixD_pos {α : Type} (xs : List α) {i : Int} (h : 0 ≤ i) : ixD xs i = xs[i.toNat]? := by
  unfold ixD
  rw [if_pos h]
theorem RpL.ix {k : Kx} {F H : Hp} {ds : List D} {vs : List V} {A : List Addr} {i : Int} {d : D} (h : RpL k F H ds vs A) (e : ixD ds i = some d) : ∃ v B, atI vs i = some v ∧ Rp k F H d v B := by
  rw [ixD_atI]
  unfold ixD at e ⊢
  have hl := h.len
  by_cases z : 0 ≤ i
  · rw [if_pos z] at e ⊢
    obtain ⟨v, B, h1, h2, _⟩ := h.get e
    exact ⟨v, B, h1, h2⟩
  · rw [if_neg z] at e ⊢
    rw [← hl]
    by_cases z2 : -(ds.length : Int) ≤ i
    · rw [if_pos z2] at e ⊢
      obtain ⟨v, B, h1, h2, _⟩ := h.get e
      exact ⟨v, B, h1, h2⟩
    · rw [if_neg z2] at e
      cases e
def gIx : D → D → Option D
  | .lst _ xs, .int i => ixD xs i
  | .tup xs, .int i => ixD xs i
  | .scr xs, .int i => ixD xs i
  | .str x, .int i => if x.length ≤ 16777216 then (ixD x.cps.toList i).map fun c => .str ⟨#[c]⟩ else none
  | _, _ => none
@[simp] theorem gIx_lst (o : Bool) (xs : List D) (i : Int) : gIx (.lst o xs) (.int i) = ixD xs i := rfl
@[simp] theorem gIx_scr (xs : List D) (i : Int) : gIx (.scr xs) (.int i) = ixD xs i := rfl
@[simp] theorem gIx_tup (xs : List D) (i : Int) : gIx (.tup xs) (.int i) = ixD xs i := rfl
def PlainIxX (b : Expr) : Prop := ∀ o i, subscripted b false o i = operate [o, i] (getItem o i)
theorem ev_ix {a b : Expr} {fa fb : Env → R D} {pos : Pos} (hK : E.k.K = X.K) (ha : EV X E W a fa) (hb : EV X E W b fb) (hs : PlainIx b := by exact fun _ _ => rfl) : EV X E W (.Subscript a b pos) (e2 gIx fa fb) := by
  refine ⟨pe_mono (pe_ix ix_seq ha.pe hb.pe hs) fun σ H Q h => ?_⟩
  obtain ⟨F, ρ, s, q⟩ := h
  refine ⟨F, ρ, s, Res.mono q.bind (fun x _ q F1 H1 v A t1 r1 => ?_) fun c _ z F' H' t => z F' H' t⟩
  refine ⟨F1, ρ, s.tr t1, Res.mono q.bind (fun y _ q F2 H2 w B t2 r2 => ?_) fun c _ z F' H' t => z F' H' (t1.trans t)⟩
  obtain ⟨d, e, p⟩ := Res.opt q
  have t12 := t1.trans t2
  have r1' := r1.tr t2
  rw [← hK]
  cases y with
  | int i =>
    have ew : w = .int i := r2.1
    cases x with
    | lst o xs =>
      obtain ⟨a, vs, B, rfl, s1, r⟩ := Rp.lstW t2.fh r1'
      obtain ⟨z, C, h1, h2⟩ := r.ix e
      exact .inl ⟨a, vs, i, z, rfl, ew, .inl (.inl s1), h1, p F2 H2 z C t12 h2⟩
    | scr xs =>
      obtain ⟨a, vs, rfl, _, s1, r⟩ := r1'
      obtain ⟨z, C, h1, h2⟩ := r.ix e
      exact .inl ⟨a, vs, i, z, rfl, ew, ex_l t2.fh s1, h1, p F2 H2 z C t12 h2⟩
    | tup xs =>
      obtain ⟨a, vs, rfl, s1, r⟩ := r1'
      obtain ⟨z, C, h1, h2⟩ := r.ix e
      exact .inr (.inl ⟨a, vs, i, z, rfl, ew, ex_t t2.fh s1, h1, p F2 H2 z C t12 h2⟩)
    | str z =>
      by_cases hz : z.length ≤ 16777216
      · have e' : (if z.length ≤ 16777216 then (ixD z.cps.toList i).map fun c => D.str ⟨#[c]⟩ else none) = some d := e
        rw [if_pos hz] at e'
        cases ec : ixD z.cps.toList i with
        | none => rw [ec] at e'; cases e'
        | some c =>
          rw [ec] at e'
          cases e'
          exact .inr (.inr ⟨z, i, c, r1'.1, ew, big_le hz, by rw [ixD_atI]; exact ec, p F2 H2 _ [] t12 ⟨rfl, rfl⟩⟩)
      · have e' : (if z.length ≤ 16777216 then (ixD z.cps.toList i).map fun c => D.str ⟨#[c]⟩ else none) = some d := e
        rw [if_neg hz] at e'
        cases e'
    | _ => cases e
  | _ => cases x <;> cases e

/-! ### slices -/
def cutD {α : Type} (xs : List α) (lo hi : Option Int) : List α := (xs.drop (HT.sIx xs.length 0 lo)).take (HT.sIx xs.length xs.length hi - HT.sIx xs.length 0 lo)
def gSl (x : D) (lo hi : Option Int) : Option D :=
  match x with
  | .lst _ xs => if D.pureL xs = true then some (.lst true (cutD xs lo hi)) else none
  | .tup xs => if D.pureL xs = true then some (.tup (cutD xs lo hi)) else none
  | .str z => if z.length ≤ 16777216 then some (.str (cutS z lo hi)) else none
  | _ => none
@[simp] theorem gSl_lst (o : Bool) (xs : List D) (lo hi : Option Int) : gSl (.lst o xs) lo hi = if D.pureL xs = true then some (.lst true (cutD xs lo hi)) else none := rfl
@[simp] theorem gSl_tup (xs : List D) (lo hi : Option Int) : gSl (.tup xs) lo hi = if D.pureL xs = true then some (.tup (cutD xs lo hi)) else none := rfl
def oI : D → Option (Option Int)
  | .int i => some (some i)
  | _ => none
@[simp] theorem oI_int (i : Int) : oI (.int i) = some (some i) := rfl
def oNo : Env → R (Option Int) := fun _ => .ok none
def oPt (f : Env → R D) : Env → R (Option Int) := fun ρ => (f ρ).bind fun d => R.opt (oI d)
@[simp] theorem oNo_eq (ρ : Env) : oNo ρ = .ok none := rfl
@[simp] theorem oPt_eq (f : Env → R D) (ρ : Env) : oPt f ρ = (f ρ).bind fun d => R.opt (oI d) := rfl
def tOF (E : En) (W : WX) (f : Env → R (Option Int)) : TO := fun σ H Q => ∃ F ρ, Stt E F H σ ρ ∧
  Res (f ρ) (fun o => ∀ F' H', Tr F H F' H' → Q o H') (fun c => ∀ F' H', Tr F H F' H' → W (E.ec c) none σ H')
structure EP2 (X : Cx) (E : En) (W : WX) (e : Option Expr) (f : Env → R (Option Int)) : Prop where
  po : PO X e (tOF E W f)
theorem ep_no : EP2 X E W none oNo := ⟨⟨fun pins s σ H Q I ⟨F, ρ, st, q⟩ => po_none.run pins s σ H Q I (q F H (Tr.refl st.fh))⟩⟩
theorem ep_pt {e : Expr} {f : Env → R D} (h : EV X E W e f) : EP2 X E W (some e) (oPt f) := by
  refine ⟨⟨fun pins s σ H Q I h' => (po_some h.pe).run pins s σ H Q I ?_⟩⟩
  obtain ⟨F, ρ, st, q⟩ := h'
  refine ⟨F, ρ, st, Res.mono q.bind (fun x _ q F1 H1 v A t1 r1 => ?_) fun c _ z F' H' t => z F' H' t⟩
  obtain ⟨o, e, p⟩ := Res.opt q
  cases x with
  | int i => cases e; exact ⟨i, r1.1, p F1 H1 t1⟩
  | _ => cases e
def eSl (f : Env → R D) (lo hi : Env → R (Option Int)) : Env → R D := fun ρ => (f ρ).bind fun d => (lo ρ).bind fun a => (hi ρ).bind fun b => R.opt (gSl d a b)
@[simp] theorem eSl_eq (f : Env → R D) (lo hi : Env → R (Option Int)) (ρ : Env) : eSl f lo hi ρ = (f ρ).bind fun d => (lo ρ).bind fun a => (hi ρ).bind fun b => R.opt (gSl d a b) := rfl
theorem RpL.cut {k : Kx} {F H : Hp} {ds : List D} {vs : List V} (h : RpL k F H ds vs []) (lo hi : Option Int) : RpL k F H (cutD ds lo hi) (cutV vs lo hi) [] := by
  unfold cutD cutV
  rw [h.len]
  exact (h.drop _).take _
theorem cutV_whole {vs : List V} {lo hi : Option Int} (h : HT.sIx vs.length 0 lo = 0 ∧ HT.sIx vs.length vs.length hi = vs.length) : cutV vs lo hi = vs := by
  unfold cutV
  rw [h.1, h.2]
  simp
theorem eo_sl {a : Expr} {lo hi : Option Expr} {fa : Env → R D} {fl fh : Env → R (Option Int)} {pos p2 : Pos} (hK : E.k.K = X.K) (ha : EV X E W a fa) (hl : EP2 X E W lo fl) (hh : EP2 X E W hi fh) : EO X E W (.Subscript a (.Slice lo hi none p2) pos) (eSl fa fl fh) := by
  refine ⟨pe_mono (pe_slice (sl_list.or (sl_tupA.or sl_str)) ha.pe hl.po hh.po) fun σ H Q h => ?_⟩
  obtain ⟨F, ρ, s, q⟩ := h
  refine ⟨F, ρ, s, Res.mono q.bind (fun x _ q F1 H1 v A t1 r1 => ?_) fun c _ z F' H' t => z F' H' t⟩
  refine ⟨F1, ρ, s.tr t1, Res.mono q.bind (fun a _ q F2 H2 t2 => ?_) fun c _ z F' H' t => z F' H' (t1.trans t)⟩
  have t12 := t1.trans t2
  refine ⟨F2, ρ, s.tr t12, Res.mono q.bind (fun b _ q F3 H3 t3 => ?_) fun c _ z F' H' t => z F' H' (t12.trans t)⟩
  have t := t12.trans t3
  obtain ⟨d, e, p⟩ := Res.opt q
  have g : GOk E F3 H3 Q d := GOk.back (E := E) (F := F) (H := H) p t
  have r1' := (r1.tr t2).tr t3
  rw [← hK]
  cases x with
  | lst o xs =>
    obtain ⟨z, e⟩ := if_some e
    cases e
    obtain ⟨ad, vs, rfl, s1, r⟩ := Rp.lstR t3.fh z r1'
    exact .inl ⟨ad, vs, rfl, .inl (.inl s1), fun p hp => g.lst t3.fh hp (r.cut a b)⟩
  | tup xs =>
    obtain ⟨z, e⟩ := if_some e
    cases e
    obtain ⟨ad, vs, rfl, s1, r⟩ := r1'
    have r' : RpL E.k F3 H3 xs vs [] := RpL.pure z (.refl _) r
    refine .inr (.inl ⟨ad, vs, rfl, ex_t t3.fh s1, fun hw => ?_, fun _ p hp => g.tup t3.fh hp (r'.cut a b)⟩)
    refine g F3 H3 (.ref ad) [] (Tr.refl t3.fh) ⟨ad, vs, rfl, s1, ?_⟩ .nil fun _ z => nomatch z
    have := r'.cut a b
    rw [cutV_whole hw] at this
    exact this
  | str z =>
    obtain ⟨hz, e⟩ := if_some e
    cases e
    exact .inr (.inr ⟨z, r1'.1, big_le hz, g.scal t3.fh fun _ _ => ⟨rfl, rfl⟩⟩)
  | _ => cases e

/-! ### calls of built-ins -/
def eB (g : List D → Option D) (fs : Env → R (List D)) : Env → R D := fun ρ => (fs ρ).bind fun ds => R.opt (g ds)
@[simp] theorem eB_eq (g : List D → Option D) (fs : Env → R (List D)) (ρ : Env) : eB g fs ρ = (fs ρ).bind fun ds => R.opt (g ds) := rfl
def SaysC (E : En) (r : List V → Hp → VK → Prop) (g : List D → Option D) : Prop := ∀ F H ds vs Q d, Ex F H → Vw E.k F H vs ds → g ds = some d → GOk E F H Q d → r vs H Q
theorem saysC {r : List V → Hp → VK → Prop} {g : List D → Option D} (hg : SaysC E r g) {fs : Env → R (List D)} {σ : L2.St} {H : Hp} {Q : VK} (h : tO E W (eB g fs) σ H Q) : tCB r (tA E W fs) σ H Q := by
  obtain ⟨F, ρ, s, q⟩ := h
  refine ⟨F, ρ, s, Res.mono q.bind (fun ds _ q F1 H1 vs t1 r1 => ?_) fun c _ z F' H' t => z F' H' t⟩
  obtain ⟨d, e, p⟩ := Res.opt q
  exact hg F1 H1 ds vs Q d t1.fh r1 e (GOk.back (E := E) (F := F) (H := H) p t1)
section
variable {x : Str} {p pos : Pos} {e : Expr} {es : List Expr} {fs : Env → R (List D)} {id T : String} {r : List V → Hp → VK → Prop} {g : List D → Option D}
theorem eo_B (hc : CallR X (.builtin id) r) (hg : SaysC E r g) (gl : Gl X x) (hm : X.mg x = none) (hv : bootBuiltins x = some (.builtin id)) (ha : EA X E W (e :: es) fs) (hn : x ≠ "__name__" := by decide) (hdb : (x == ("__debug__" : Str)) = false := by decide)
    (he : starEach (e :: es) X.env = (false, eval e X.env) :: starEach es X.env := by rfl) (hpl : (backTo pos (starEach es X.env)).any (·.1) = false := by rfl) : EO X E W (.Call (.Name x p) (e :: es) [] pos) (eB g fs) :=
  ⟨pe_mono (pe_callB hc gl hm hv ha.pa hn hdb he hpl) fun _ _ _ h => saysC hg h⟩
theorem eo_T (hc : CallR X (.type T) r) (hg : SaysC E r g) (gl : Gl X x) (hm : X.mg x = none) (hv : bootBuiltins x = some (.type T)) (ha : EA X E W (e :: es) fs) (hn : x ≠ "__name__" := by decide) (hdb : (x == ("__debug__" : Str)) = false := by decide)
    (he : starEach (e :: es) X.env = (false, eval e X.env) :: starEach es X.env := by rfl) (hpl : (backTo pos (starEach es X.env)).any (·.1) = false := by rfl) : EO X E W (.Call (.Name x p) (e :: es) [] pos) (eB g fs) :=
  ⟨pe_mono (pe_callTy hc gl hm hv ha.pa hn hdb he hpl) fun _ _ _ h => saysC hg h⟩
end
theorem Vw.one {k : Kx} {F H : Hp} {vs : List V} {d : D} (h : Vw k F H vs [d]) : ∃ v A, vs = [v] ∧ Rp k F H d v A := by
  cases h with
  | cons r t =>
    cases t
    obtain ⟨A, r⟩ := r
    exact ⟨_, A, rfl, r⟩
theorem Vw.two {k : Kx} {F H : Hp} {vs : List V} {d e : D} (h : Vw k F H vs [d, e]) : ∃ v w A B, vs = [v, w] ∧ Rp k F H d v A ∧ Rp k F H e w B := by
  cases h with
  | cons r t =>
    cases t with
    | cons r2 t =>
      cases t
      obtain ⟨A, r⟩ := r
      obtain ⟨B, r2⟩ := r2
      exact ⟨_, _, A, B, rfl, r, r2⟩
def gLen : List D → Option D
  | [.lst _ xs] => some (.int xs.length)
  | [.scr xs] => some (.int xs.length)
  | [.tup xs] => some (.int xs.length)
  | [.str x] => if x.length ≤ 16777216 then some (.int x.length) else none
  | _ => none
@[simp] theorem gLen_lst (o : Bool) (xs : List D) : gLen [.lst o xs] = some (.int xs.length) := rfl
@[simp] theorem gLen_scr (xs : List D) : gLen [.scr xs] = some (.int xs.length) := rfl
@[simp] theorem gLen_tup (xs : List D) : gLen [.tup xs] = some (.int xs.length) := rfl
@[simp] theorem gLen_str (x : Str) : gLen [.str x] = if x.length ≤ 16777216 then some (.int x.length) else none := rfl
theorem says_len : SaysC E (fun xs H Q => ∃ x n, xs = [x] ∧ LenV E.k.K x H n ∧ Q (.int n) H) gLen := by
  intro F H ds vs Q d fh r e g
  unfold gLen at e
  split at e
  · cases e
    obtain ⟨v, A, rfl, rr⟩ := r.one
    obtain ⟨a, ws, B, rfl, s, r⟩ := Rp.lstW fh rr
    exact ⟨_, ws.length, rfl, .inl ⟨ws, .inl (.inl s), rfl⟩, by rw [← r.len]; exact g.scal fh fun _ _ => ⟨rfl, rfl⟩⟩
  · cases e
    obtain ⟨v, A, rfl, rr⟩ := r.one
    obtain ⟨a, ws, rfl, _, s, r⟩ := rr
    exact ⟨_, ws.length, rfl, .inl ⟨ws, ex_l fh s, rfl⟩, by rw [← r.len]; exact g.scal fh fun _ _ => ⟨rfl, rfl⟩⟩
  · cases e
    obtain ⟨v, A, rfl, rr⟩ := r.one
    obtain ⟨a, ws, rfl, s, r⟩ := rr
    exact ⟨_, ws.length, rfl, .inr ⟨ws, ex_t fh s, rfl⟩, by rw [← r.len]; exact g.scal fh fun _ _ => ⟨rfl, rfl⟩⟩
  · obtain ⟨z, e⟩ := if_some e
    cases e
    obtain ⟨v, A, rfl, rr⟩ := r.one
    exact ⟨v, _, rfl, by rw [rr.1]; exact ⟨big_le z, rfl⟩, g.scal fh fun _ _ => ⟨rfl, rfl⟩⟩
  · cases e
def gAbs : List D → Option D
  | [.int i] => some (.int (if i < 0 then -i else i))
  | _ => none
@[simp] theorem gAbs_int (i : Int) : gAbs [.int i] = some (.int (if i < 0 then -i else i)) := rfl
theorem says_abs : SaysC E (fun xs H Q => ∃ i, xs = [.int i] ∧ Q (.int (if i < 0 then -i else i)) H) gAbs := by
  intro F H ds vs Q d fh r e g
  unfold gAbs at e
  split at e
  · cases e
    obtain ⟨v, A, rfl, rr⟩ := r.one
    rw [rr.1]
    exact ⟨_, rfl, g.scal fh fun _ _ => ⟨rfl, rfl⟩⟩
  · cases e
def gMax2 : List D → Option D
  | [.int i, .int j] => some (.int (if j > i then j else i))
  | _ => none
def gMin2 : List D → Option D
  | [.int i, .int j] => some (.int (if j < i then j else i))
  | _ => none
@[simp] theorem gMax2_int (i j : Int) : gMax2 [.int i, .int j] = some (.int (if j > i then j else i)) := rfl
@[simp] theorem gMin2_int (i j : Int) : gMin2 [.int i, .int j] = some (.int (if j < i then j else i)) := rfl
theorem says_max2 : SaysC E (fun xs H Q => ∃ i j, xs = [.int i, .int j] ∧ Q (.int (if j > i then j else i)) H) gMax2 := by
  intro F H ds vs Q d fh r e g
  unfold gMax2 at e
  split at e
  · cases e
    obtain ⟨v, w, A, B, rfl, rr, r2⟩ := r.two
    rw [rr.1, r2.1]
    exact ⟨_, _, rfl, g.scal fh fun _ _ => ⟨rfl, rfl⟩⟩
  · cases e
theorem says_min2 : SaysC E (fun xs H Q => ∃ i j, xs = [.int i, .int j] ∧ Q (.int (if j < i then j else i)) H) gMin2 := by
  intro F H ds vs Q d fh r e g
  unfold gMin2 at e
  split at e
  · cases e
    obtain ⟨v, w, A, B, rfl, rr, r2⟩ := r.two
    rw [rr.1, r2.1]
    exact ⟨_, _, rfl, g.scal fh fun _ _ => ⟨rfl, rfl⟩⟩
  · cases e
def gInt : List D → Option D
  | [.int i] => some (.int i)
  | [.bl b] => some (.int (if b then 1 else 0))
  | _ => none
@[simp] theorem gInt_int (i : Int) : gInt [.int i] = some (.int i) := rfl
@[simp] theorem gInt_bl (b : Bool) : gInt [.bl b] = some (.int (if b then 1 else 0)) := rfl
theorem says_int : SaysC E (fun xs H Q => (∃ i, xs = [.int i] ∧ Q (.int i) H) ∨ ∃ k, xs = [.bl k] ∧ Q (.int (if k then 1 else 0)) H) gInt := by
  intro F H ds vs Q d fh r e g
  unfold gInt at e
  split at e
  · cases e
    obtain ⟨v, A, rfl, rr⟩ := r.one
    rw [rr.1]
    exact .inl ⟨_, rfl, g.scal fh fun _ _ => ⟨rfl, rfl⟩⟩
  · cases e
    obtain ⟨v, A, rfl, rr⟩ := r.one
    rw [rr.1]
    exact .inr ⟨_, rfl, g.scal fh fun _ _ => ⟨rfl, rfl⟩⟩
  · cases e
def gList : List D → Option D
  | [x] => (items x).bind fun xs => if D.pureL xs = true then some (.lst true xs) else none
  | _ => none
@[simp] theorem gList_one (x : D) : gList [x] = (items x).bind fun xs => if D.pureL xs = true then some (.lst true xs) else none := rfl
theorem says_list : SaysC E (fun xs H Q => ∃ p ys, xs = [.ref p] ∧ (SqL E.k.K H p ys ∨ SqT E.k.K H p ys) ∧ ∀ l, H l = none → Q (.ref l) (upd H l (.lst ys))) gList := by
  intro F H ds vs Q d fh r e g
  unfold gList at e
  split at e
  · rename_i x
    obtain ⟨v, A, rfl, rr⟩ := r.one
    cases ei : items x with
    | none => rw [ei] at e; cases e
    | some xs =>
      rw [ei] at e
      obtain ⟨z, e⟩ := if_some (show (if D.pureL xs = true then some (D.lst true xs) else none) = some d from e)
      cases e
      obtain ⟨a, ws, B, rfl, s, r⟩ := rr.items fh ei
      exact ⟨a, ws, rfl, s.symm, fun l hl => g.lst fh hl (RpL.pure z (.refl _) r)⟩
  · cases e
def gTuple : List D → Option D
  | [x] => (items x).bind fun xs => if D.pureL xs = true then some (.tup xs) else none
  | _ => none
@[simp] theorem gTuple_one (x : D) : gTuple [x] = (items x).bind fun xs => if D.pureL xs = true then some (.tup xs) else none := rfl
theorem says_tuple : SaysC E (fun xs H Q => ∃ p ys, xs = [.ref p] ∧ ((SqL E.k.K H p ys ∧ ∀ l, H l = none → Q (.ref l) (upd H l (.tup ys))) ∨ (SqT E.k.K H p ys ∧ Q (.ref p) H))) gTuple := by
  intro F H ds vs Q d fh r e g
  unfold gTuple at e
  split at e
  · rename_i x
    obtain ⟨v, A, rfl, rr⟩ := r.one
    cases x with
    | lst o xs =>
      obtain ⟨z, e⟩ := if_some (show (if D.pureL xs = true then some (D.tup xs) else none) = some d from e)
      cases e
      obtain ⟨a, ws, rfl, s, r⟩ := Rp.lstR fh z rr
      exact ⟨a, ws, rfl, .inl ⟨.inl (.inl s), fun l hl => g.tup fh hl r⟩⟩
    | tup xs =>
      obtain ⟨z, e⟩ := if_some (show (if D.pureL xs = true then some (D.tup xs) else none) = some d from e)
      cases e
      obtain ⟨a, ws, rfl, s, r⟩ := rr
      exact ⟨a, ws, rfl, .inr ⟨ex_t fh s, g F H (.ref a) [] (Tr.refl fh) ⟨a, ws, rfl, s, RpL.pure z (.refl _) r⟩ .nil fun _ z => nomatch z⟩⟩
    | _ => cases e
  · cases e
def gOrd : List D → Option D
  | [.str x] => if x.length = 1 then some (.int (x.cps.getD 0 0 : Nat)) else none
  | _ => none
@[simp] theorem gOrd_str (x : Str) : gOrd [.str x] = if x.length = 1 then some (.int (x.cps.getD 0 0 : Nat)) else none := rfl
theorem says_ord : SaysC E (fun xs H Q => ∃ x, xs = [.str x] ∧ x.length = 1 ∧ Q (.int (x.cps.getD 0 0 : Nat)) H) gOrd := by
  intro F H ds vs Q d fh r e g
  unfold gOrd at e
  split at e
  · obtain ⟨z, e⟩ := if_some e
    cases e
    obtain ⟨v, A, rfl, rr⟩ := r.one
    rw [rr.1]
    exact ⟨_, rfl, z, g.scal fh fun _ _ => ⟨rfl, rfl⟩⟩
  · cases e
/-- the type of data, by its name -/
def tyD : D → String
  | .non => "NoneType" | .bl _ => "bool" | .int _ => "int" | .str _ => "str" | .tup _ => "tuple" | .lst _ _ => "list" | .scr _ => "list" | .dic _ _ _ => "dict" | .dit _ _ _ => "dict" | .ins _ _ _ => "object"
def gIsi (T : String) : List D → Option D
  | [x, .non] => match x with
    | .ins _ _ _ => none
    | _ => (kitB (tyD x) T).map .bl
  | _ => none
end
end Dv
end
section
set_option maxRecDepth 100000
set_option maxHeartbeats 1000000
namespace Dv
open PySem PySem.Spec PyProof.Rows L2

/-! ### isinstance -/
section
variable {X : Cx} {E : En} {W : WX}
theorem Rp.ty {k : Kx} {F H : Hp} (fh : Ex F H) {d : D} {v : V} {A : List Addr} (hn : ∀ c fs xs, d ≠ .ins c fs xs) (h : Rp k F H d v A) : TyX k.K H v (.type (tyD d)) := by
  cases d with
  | non => rw [h.1]; exact .base .non
  | bl b => rw [h.1]; exact .base (.bl b)
  | int i => rw [h.1]; exact .base (.int i)
  | str x => rw [h.1]; exact .base (.str x)
  | tup xs =>
    obtain ⟨a, vs, rfl, s, r⟩ := h
    rcases ex_t fh s with (s | ⟨o, s⟩) | ⟨o, its, n, hl, hc, _⟩
    · exact .base (.tup s)
    · exact .fTuple s
    · exact .kTuple hl hc
  | lst o xs =>
    obtain ⟨a, vs, B, rfl, s, r⟩ := Rp.lstW fh h
    exact .base (.lst s)
  | scr xs =>
    obtain ⟨a, vs, rfl, _, s, r⟩ := h
    rcases ex_l fh s with (s | ⟨o, s⟩) | ⟨o, its, n, hl, hc, _⟩
    · exact .base (.lst s)
    · exact .base (.frz s)
    · exact .kList hl hc
  | dic o ks xs =>
    obtain ⟨a, vs, B, rfl, l, r, h1, h2⟩ := h
    cases o with
    | false => exact .base (.dK (fh _ _ (h1 rfl).1))
    | true => exact .base (.dK (h2 rfl).2.2)
  | dit o ks xs =>
    obtain ⟨a, vs, B, rfl, l, r, h1, h2⟩ := h
    cases o with
    | false => exact .base (.dT (fh _ _ (h1 rfl).1))
    | true => exact .base (.dT (h2 rfl).2.2)
  | ins c fs xs => exact absurd rfl (hn c fs xs)
/-- isinstance(x, T) -/
def isiD (T : String) (d : D) : R D := match d with
  | .ins _ _ _ => .no
  | _ => R.opt ((kitB (tyD d) T).map D.bl)
def eIsi (T : String) (f : Env → R D) : Env → R D := fun ρ => (f ρ).bind (isiD T)
@[simp] theorem eIsi_eq (T : String) (f : Env → R D) (ρ : Env) : eIsi T f ρ = (f ρ).bind (isiD T) := rfl
theorem isiD_of {T : String} {d : D} {b : Bool} (hn : ∀ c fs xs, d ≠ .ins c fs xs) (h : kitB (tyD d) T = some b) : isiD T d = .ok (.bl b) := by
  unfold isiD
  cases d with
  | ins c fs xs => exact absurd rfl (hn c fs xs)
  | _ => simp only [h]; rfl
theorem eo_isi {T : String} {a : Expr} {fa : Env → R D} {x y : Str} {p p2 pos : Pos} (hK : E.k.K = X.K) (gl : Gl X x) (hm : X.mg x = none) (hv : bootBuiltins x = some (.builtin "isinstance")) (gl2 : Gl X y) (hm2 : X.mg y = none) (hv2 : bootBuiltins y = some (.type T)) (ha : EV X E W a fa)
    (hn : x ≠ "__name__" := by decide) (hdb : (x == ("__debug__" : Str)) = false := by decide) (hn2 : y ≠ "__name__" := by decide) (hdb2 : (y == ("__debug__" : Str)) = false := by decide)
    (he : starEach [a, .Name y p2] X.env = (false, eval a X.env) :: starEach [.Name y p2] X.env := by rfl) (he2 : starEach [.Name y p2] X.env = (false, eval (.Name y p2) X.env) :: starEach [] X.env := by rfl) (hpl : (backTo pos (starEach [.Name y p2] X.env)).any (·.1) = false := by rfl) :
    EO X E W (.Call (.Name x p) [a, .Name y p2] [] pos) (eIsi T fa) := by
  refine ⟨pe_mono (pe_callB call_isi gl hm hv (pa_cons ha.pe (pa_cons (pe_bltn (v := .ty T) gl2 hm2 hv2 rfl hn2 hdb2) pa_nil he2) he) hn hdb he hpl) fun σ H Q h => ?_⟩
  obtain ⟨F, ρ, s, q⟩ := h
  refine ⟨F, ρ, s, Res.mono q.bind (fun d _ q F1 H1 v A t1 r1 => ?_) fun c _ z F' H' t => z F' H' t⟩
  have go : (∀ c fs xs, d ≠ .ins c fs xs) → Res (R.opt ((kitB (tyD d) T).map D.bl)) (fun d => ∀ F' H' v A, Tr F H F' H' → Rp E.k F' H' d v A → A.Nodup → (∀ a ∈ A, H a = none) → Q v H') (fun c => ∀ F' H', Tr F H F' H' → W (E.ec c) none σ H') →
      rIsi X.K [v, .ty T] H1 Q := fun hi q => by
    obtain ⟨d', e, p⟩ := Res.opt q
    cases ek : kitB (tyD d) T with
    | none => rw [ek] at e; cases e
    | some b =>
      rw [ek] at e
      cases e
      exact ⟨v, .ty T, _, _, b, rfl, .ty T, by rw [← hK]; exact r1.ty t1.fh hi, kit_ty ek, p F1 H1 (.bl b) [] t1 ⟨rfl, rfl⟩ .nil fun _ z => nomatch z⟩
  cases d with
  | ins _ _ _ => exact q.elim
  | _ => exact go (fun _ _ _ z => nomatch z) q
theorem kitB_ty (a b : String) (r : Bool) (h : kitB a b = some r) : (kitB a b).map D.bl = some (.bl r) := by rw [h]; rfl

/-! ### a def's promise, its call -/
/-- what is promised of a def whose meaning is f: n arguments, all pure -/
def spD (k : Kx) (ec : Nat → Value) (n : Nat) (f : List D → R D) : Sp := fun vs H Q Ew => ∃ F ds, Ex F H ∧ RpL k F H ds vs [] ∧ D.pureL ds = true ∧ ds.length = n ∧
  Res (f ds) (fun d => ∀ F' H' v A, Tr F H F' H' → Rp k F' H' d v A → A.Nodup → (∀ a ∈ A, H a = none) → Q v H') (fun c => ∀ F' H', Tr F H F' H' → Ew (ec c) none H')
theorem spD_len {k : Kx} {ec : Nat → Value} {n : Nat} {f : List D → R D} {vs : List V} {H : Hp} {Q : VK} {Ew : XK} (h : spD k ec n f vs H Q Ew) : vs.length = n := by
  obtain ⟨F, ds, _, r, _, l, _⟩ := h
  rw [← r.len, l]
def callF (n : Nat) (f : List D → R D) (ds : List D) : R D :=
  if ds.length = n then
    if D.pureL ds = true then f ds
    else if D.coldL ds = true then (f (D.frzL ds)).bind fun r => if r.noFz = true then .ok r else .no
    else .no
  else .no
def eCall (n : Nat) (f : List D → R D) (fs : Env → R (List D)) : Env → R D := fun ρ => (fs ρ).bind (callF n f)
@[simp] theorem eCall_eq (n : Nat) (f : List D → R D) (fs : Env → R (List D)) (ρ : Env) : eCall n f fs ρ = (fs ρ).bind (callF n f) := rfl
theorem frzL_len : ∀ ds : List D, (D.frzL ds).length = ds.length
  | [] => rfl
  | d :: ds => by rw [D.frzL, List.length_cons, List.length_cons, frzL_len ds]
/-- the caller's side of a call -/
theorem call_of {n : Nat} {f : List D → R D} {F H F1 H1 : Hp} {ds : List D} {vs : List V} {Q : VK} {Ew : XK} (t1 : Tr F H F1 H1) (r : Vw E.k F1 H1 vs ds)
    (h : Res (callF n f ds) (fun d => ∀ F' H' v A, Tr F H F' H' → Rp E.k F' H' d v A → A.Nodup → (∀ a ∈ A, H a = none) → Q v H') (fun c => ∀ F' H', Tr F H F' H' → Ew (E.ec c) none H')) : spD E.k E.ec n f vs H1 Q Ew := by
  unfold callF at h
  by_cases hl : ds.length = n
  · rw [if_pos hl] at h
    obtain ⟨A, ra⟩ := Vw.rpl r
    by_cases hp : D.pureL ds = true
    · rw [if_pos hp] at h
      exact ⟨F1, ds, t1.fh, RpL.pure hp (.refl _) ra, hp, hl, Res.mono h (fun d _ p F' H' v A t r n u => p F' H' v A (t1.trans t) r n fun a ha => none_back t1.hh (u a ha)) fun c _ z F' H' t => z F' H' (t1.trans t)⟩
    · rw [if_neg hp] at h
      by_cases hc : D.coldL ds = true
      · rw [if_pos hc] at h
        have dm := RpL.dom ds vs A ra
        have n1 : ∀ a ∈ A, F1 a = none := fun a ha => (dm a ha).1
        refine ⟨fz F1 H1 A, D.frzL ds, fz_exH t1.fh, RpL.frz n1 ds vs A hc (fun _ z => z) ra, D.frzL_pure ds hc, by rw [frzL_len]; exact hl, ?_⟩
        have back : ∀ {F' H' : Hp}, Tr (fz F1 H1 A) H1 F' H' → Tr F1 H1 (fun a => if a ∈ A then none else F' a) H' := fun {F' H'} t => by
          refine ⟨fun a o e => ?_, t.hh, fun a o e => ?_, fun a e z => ?_⟩
          · have : a ∉ A := fun z => by rw [n1 a z] at e; cases e
            show (if a ∈ A then none else F' a) = some o
            rw [if_neg this]
            exact t.ff a o (by rw [fz_out this]; exact e)
          · have e' : (if a ∈ A then none else F' a) = some o := e
            by_cases q : a ∈ A
            · rw [if_pos q] at e'; cases e'
            · rw [if_neg q] at e'; exact t.fh a o e'
          · show (if a ∈ A then none else F' a) = none
            by_cases q : a ∈ A
            · rw [if_pos q]
            · rw [if_neg q]; exact t.no a (by rw [fz_out q]; exact e) z
        refine Res.mono h.bind (fun d _ p F' H' v B t rv nd u => ?_) fun c _ z F' H' t => z _ H' (t1.trans (back t))
        by_cases hz : d.noFz = true
        · rw [if_pos hz] at p
          refine p _ H' v B (t1.trans (back t)) (Rp.thin A (fun a ha o e => ?_) d v B hz rv) nd fun a ha => none_back t1.hh (u a ha)
          obtain ⟨_, o1, e1, x1, x2⟩ := dm a ha
          have e2 : F' a = some o1 := t.ff a o1 (by rw [fz_in ha]; exact e1)
          rw [e2] at e
          cases e
          exact ⟨x1, x2⟩
        · rw [if_neg hz] at p
          exact p.elim
      · rw [if_neg hc] at h
        exact h.elim
  · rw [if_neg hl] at h
    exact h.elim
theorem eo_call {k n : Nat} {fa : Addr} {fd : FuncData} {ps : List Str} {f : List D → R D} {fs : Env → R (List D)} {x : Str} {p pos : Pos} {e : Expr} {es : List Expr} (G : FnOk X.prog X.w X.K X.mg X.base (L2.CX X.prog X.w) k fa fd ps (spD E.k E.ec n f)) (tk : Takes X W) (hr : Room k X.A) (hg : Gl X x) (hm : X.mg x = some (.ref fa)) (hk : PySem.W.keepIn X.K (.ref fa) = true) (hb : Binds X.K fd ps [])
    (ha : EA X E W (e :: es) fs) (hdb : (x == ("__debug__" : Str)) = false := by decide) (he : starEach (e :: es) X.env = (false, eval e X.env) :: starEach es X.env := by rfl) (hpl : (backTo pos (starEach es X.env)).any (·.1) = false := by rfl) : EO X E W (.Call (.Name x p) (e :: es) [] pos) (eCall n f fs) := by
  refine ⟨pe_mono (pe_callS (E := WE W) G hr hg hm hk hb (fun σ => passAt tk σ) ha.pa hdb he hpl) fun σ H Q h => ?_⟩
  obtain ⟨F, ρ, s, q⟩ := h
  exact ⟨F, ρ, s, Res.mono q.bind (fun ds _ q F1 H1 vs t1 r1 => call_of (Ew := WE W σ) t1 r1 q) fun c _ z F' H' t => z F' H' t⟩

/-! ### blocks -/
def sThen (f g : Env → SR) : Env → SR := fun ρ => match f ρ with
  | .nx ρ' => g ρ'
  | r => r
def SR.andThen (r : SR) (g : Env → SR) : SR := match r with
  | .nx ρ' => g ρ'
  | r => r
@[simp] theorem SR.at_nx (ρ : Env) (g : Env → SR) : (SR.nx ρ).andThen g = g ρ := rfl
@[simp] theorem SR.at_no (g : Env → SR) : SR.no.andThen g = .no := rfl
@[simp] theorem SR.at_bk (ρ : Env) (g : Env → SR) : (SR.bk ρ).andThen g = .bk ρ := rfl
@[simp] theorem SR.at_ct (ρ : Env) (g : Env → SR) : (SR.ct ρ).andThen g = .ct ρ := rfl
@[simp] theorem SR.at_rt (d : D) (ρ : Env) (g : Env → SR) : (SR.rt d ρ).andThen g = .rt d ρ := rfl
@[simp] theorem SR.at_ex (c : Nat) (ρ : Env) (g : Env → SR) : (SR.ex c ρ).andThen g = .ex c ρ := rfl
def sq (f g : Env → SR) : Env → SR := fun ρ => (f ρ).andThen g
@[simp] theorem sq_eq (f g : Env → SR) (ρ : Env) : sq f g ρ = (f ρ).andThen g := rfl
def sNil : Env → SR := fun ρ => .nx ρ
@[simp] theorem sNil_eq (ρ : Env) : sNil ρ = .nx ρ := rfl
section
variable {st : Stmt} {rest : List Stmt} {f g : Env → SR} {pos : Pos}
theorem sb_nil : SB X E W [] sNil := ⟨pss_mono pss_nil fun Z σ H ⟨F, ρ, s, q⟩ => q F H σ (.refl _) s⟩
theorem SRes.mono {F F' : Hp} {Z Z' : Ends} {r : SR} (h : SRes E W F Z r) (hF : Ex F F') (hz : ∀ σ H, Z.nx σ H → Z'.nx σ H) (hr : ∀ v H, Z.rt v H → Z'.rt v H) (hb : ∀ σ H, Z.bk σ H → Z'.bk σ H) (hc : ∀ σ H, Z.ct σ H → Z'.ct σ H) : SRes E W F' Z' r := by
  cases r with
  | no => exact h
  | nx ρ => exact fun F2 H2 σ x s => hz _ _ (h F2 H2 σ (hF.trans x) s)
  | bk ρ => exact fun F2 H2 σ x s => hb _ _ (h F2 H2 σ (hF.trans x) s)
  | ct ρ => exact fun F2 H2 σ x s => hc _ _ (h F2 H2 σ (hF.trans x) s)
  | rt d ρ => exact fun F2 H2 σ v s x => hr _ _ (h F2 H2 σ v s x)
  | ex c ρ => exact fun F2 H2 σ x s => h F2 H2 σ (hF.trans x) s
theorem SRes.then {F : Hp} {Z : Ends} {r : SR} (h : SRes E W F Z (r.andThen g)) : SRes E W F { Z with nx := tSS E W g Z } r := by
  cases r with
  | nx ρ => exact fun F2 H2 σ x s => ⟨F2, ρ, s, SRes.mono h x (fun _ _ z => z) (fun _ _ z => z) (fun _ _ z => z) fun _ _ z => z⟩
  | _ => exact h
theorem sb_cons (h1 : SS X E W st f) (h2 : SB X E W rest g) : SB X E W (st :: rest) (sq f g) :=
  ⟨pss_mono (pss_cons h1.ps h2.ps) fun Z σ H ⟨F, ρ, s, q⟩ => ⟨F, ρ, s, SRes.then q⟩⟩
theorem sb_one (h1 : SS X E W st f) : SB X E W [st] f := ⟨pss_one h1.ps⟩
/-! small statements -/
def sPass : Env → SR := fun ρ => .nx ρ
def sBrk : Env → SR := fun ρ => .bk ρ
def sCnt : Env → SR := fun ρ => .ct ρ
@[simp] theorem sPass_eq (ρ : Env) : sPass ρ = .nx ρ := rfl
@[simp] theorem sBrk_eq (ρ : Env) : sBrk ρ = .bk ρ := rfl
@[simp] theorem sCnt_eq (ρ : Env) : sCnt ρ = .ct ρ := rfl
theorem ss_pass : SS X E W (.Pass pos) sPass := ⟨ps_mono ps_pass fun Z σ H ⟨F, ρ, s, q⟩ => q F H σ (.refl _) s⟩
theorem ss_brk : SS X E W (.Break pos) sBrk := ⟨ps_mono ps_break fun Z σ H ⟨F, ρ, s, q⟩ => q F H σ (.refl _) s⟩
theorem ss_cnt : SS X E W (.Continue pos) sCnt := ⟨ps_mono ps_continue fun Z σ H ⟨F, ρ, s, q⟩ => q F H σ (.refl _) s⟩
end
/-- an expression's end carried on -/
def R.st {α : Type} (r : R α) (ρ : Env) (k : α → SR) : SR := match r with
  | .no => .no
  | .ok a => k a
  | .ex c => .ex c ρ
@[simp] theorem R.st_no {α : Type} (ρ : Env) (k : α → SR) : (R.no).st ρ k = .no := rfl
@[simp] theorem R.st_ok {α : Type} (a : α) (ρ : Env) (k : α → SR) : (R.ok a).st ρ k = k a := rfl
@[simp] theorem R.st_ex {α : Type} (c : Nat) (ρ : Env) (k : α → SR) : (R.ex c : R α).st ρ k = .ex c ρ := rfl
theorem SRes.st {α : Type} {F : Hp} {Z : Ends} {r : R α} {ρ : Env} {k : α → SR} (h : SRes E W F Z (r.st ρ k)) : Res r (fun a => SRes E W F Z (k a)) (fun c => SRes E W F Z (.ex c ρ)) := by
  cases r with
  | no => exact h
  | ok a => exact h
  | ex c => exact h
/-- the exceptional end, from a state -/
theorem SRes.exc {F H : Hp} {Z : Ends} {c : Nat} {ρ : Env} {σ : L2.St} (s : Stt E F H σ ρ) (h : SRes E W F Z (.ex c ρ)) : ∀ F' H', Tr F H F' H' → W (E.ec c) none σ H' := fun F' H' t => h F' H' σ t.ff (s.tr t)
/-- a slot gets what was made -/
theorem Stt.set {F H F' H' : Hp} {σ : L2.St} {ρ : Env} {i : Nat} {d : D} {v : V} {A : List Addr} (s : Stt E F H σ ρ) (t : Tr F H F' H') (r : Rp E.k F' H' d v A) (nd : A.Nodup) (u : ∀ a ∈ A, H a = none) (hb : i ∉ E.bs) : Stt E F' H' (σ.set i (some v)) (ρ.set i (some d)) := by
  have s' := s.tr t
  obtain ⟨fp, sl⟩ := s.sl
  by_cases hi : i < ρ.length
  · refine ⟨s'.e0, s'.fh, s'.fr, s'.st, s'.bt, by rw [List.length_set, List.length_set]; exact s'.len, fun j hj => ?_, fun j => if j = i then A else fp j, fun j d' e => ?_, fun j e => ?_, fun j => ?_, fun j j' a ha ha' => ?_, fun j a ha => ?_⟩
    · rw [List.getElem?_set_ne (fun z => hb (by rw [z]; exact hj))]
      exact s'.bv j hj
    · by_cases q : j = i
      · subst q
        rw [List.getElem?_set_self hi] at e
        cases e
        refine ⟨v, by rw [List.getElem?_set_self (by rw [← s'.len]; exact hi)], ?_⟩
        show Rp E.k F' H' d v (if j = j then A else fp j)
        rw [if_pos rfl]; exact r
      · rw [List.getElem?_set_ne (Ne.symm q)] at e
        obtain ⟨v', e', r'⟩ := sl.rp j d' e
        refine ⟨v', by rw [List.getElem?_set_ne (Ne.symm q)]; exact e', ?_⟩
        show Rp E.k F' H' d' v' (if j = i then A else fp j)
        rw [if_neg q]
        exact r'.tr t
    · show (if j = i then A else fp j) = []
      by_cases q : j = i
      · subst q
        rw [List.getElem?_set_self hi] at e
        cases e
      · rw [List.getElem?_set_ne (Ne.symm q)] at e
        rw [if_neg q]
        exact sl.em j e
    · show (if j = i then A else fp j).Nodup
      by_cases q : j = i
      · rw [if_pos q]; exact nd
      · rw [if_neg q]; exact sl.nd j
    · have ha : a ∈ (if j = i then A else fp j) := ha
      have ha' : a ∈ (if j' = i then A else fp j') := ha'
      by_cases q : j = i
      · by_cases q' : j' = i
        · rw [q, q']
        · rw [if_pos q] at ha
          rw [if_neg q'] at ha'
          exact absurd (u a ha) (sl.there ha').2
      · rw [if_neg q] at ha
        by_cases q' : j' = i
        · rw [if_pos q'] at ha'
          exact absurd (u a ha') (sl.there ha).2
        · rw [if_neg q'] at ha'
          exact sl.dj j j' a ha ha'
    · have ha : a ∈ (if j = i then A else fp j) := ha
      by_cases q : j = i
      · rw [if_pos q] at ha
        exact .inl (s.new (u a ha))
      · rw [if_neg q] at ha
        exact sl.nw j a ha
  · have e1 : ρ.set i (some d) = ρ := List.set_eq_of_length_le (by omega)
    have e2 : σ.set i (some v) = σ := List.set_eq_of_length_le (by have := s.len; omega)
    rw [e1, e2]
    exact s'
/-- a slot's object is written at l: the new data own what they owned, or what is new -/
theorem Stt.write {F H : Hp} {σ : L2.St} {ρ : Env} {fp : Nat → List Addr} {i : Nat} {d' : D} {v : V} {A' : List Addr} {l : Addr} {o : HO} (s : Stt E F H σ ρ) (sl : Sl E F H σ ρ fp) (hl : l ∈ fp i) (hv : σ[i]? = some (some v)) (r : Rp E.k F (upd H l o) d' v A') (nd : A'.Nodup)
    (hA : ∀ a ∈ A', a ∈ fp i ∨ (E.He a = none ∧ ∀ j, a ∉ fp j)) : Stt E F (upd H l o) σ (ρ.set i (some d')) := by
  have fl := (sl.there hl).1
  have hi : i < ρ.length := by rw [s.len]; exact (List.getElem?_eq_some_iff.mp hv).1
  refine ⟨s.e0, fun a o' e => ?_, s.fr, fun a o' e b => ?_, fun a b => ?_, by rw [List.length_set]; exact s.len, s.bv, fun j => if j = i then A' else fp j, fun j d2 e => ?_, fun j e => ?_, fun j => ?_, fun j j' a ha ha' => ?_, fun j a ha => ?_⟩
  · rw [upd_ne fun z => by rw [z, fl] at e; cases e]
    exact s.fh a o' e
  · rw [upd_ne fun z => by
      rcases sl.nw i l hl with h | h
      · rw [z, h] at e; cases e
      · exact b (z ▸ h.1)]
    exact s.st a o' e b
  · by_cases q : a = l
    · rw [q, upd_same]; exact fun z => nomatch z
    · rw [upd_ne q]; exact s.bt a b
  · by_cases q : j = i
    · subst q
      rw [List.getElem?_set_self hi] at e
      cases e
      refine ⟨v, hv, ?_⟩
      show Rp E.k F (upd H l o) d' v (if j = j then A' else fp j)
      rw [if_pos rfl]; exact r
    · rw [List.getElem?_set_ne (Ne.symm q)] at e
      obtain ⟨v', e', r'⟩ := sl.rp j d2 e
      refine ⟨v', e', ?_⟩
      show Rp E.k F (upd H l o) d2 v' (if j = i then A' else fp j)
      rw [if_neg q]
      refine Rp.mono (.refl _) d2 v' _ (fun a ha o2 e2 n => ⟨?_, n⟩) r'
      rw [upd_ne fun z => q (sl.dj j i l (by rw [← z]; exact ha) hl)]
      exact e2
  · show (if j = i then A' else fp j) = []
    by_cases q : j = i
    · subst q
      rw [List.getElem?_set_self hi] at e
      cases e
    · rw [List.getElem?_set_ne (Ne.symm q)] at e
      rw [if_neg q]
      exact sl.em j e
  · show (if j = i then A' else fp j).Nodup
    by_cases q : j = i
    · rw [if_pos q]; exact nd
    · rw [if_neg q]; exact sl.nd j
  · have ha : a ∈ (if j = i then A' else fp j) := ha
    have ha' : a ∈ (if j' = i then A' else fp j') := ha'
    by_cases q : j = i
    · by_cases q' : j' = i
      · rw [q, q']
      · rw [if_pos q] at ha
        rw [if_neg q'] at ha'
        rcases hA a ha with h | h
        · exact absurd (sl.dj i j' a h ha').symm q'
        · exact absurd ha' (h.2 j')
    · rw [if_neg q] at ha
      by_cases q' : j' = i
      · rw [if_pos q'] at ha'
        rcases hA a ha' with h | h
        · exact absurd (sl.dj j i a ha h) q
        · exact absurd ha (h.2 j)
      · rw [if_neg q'] at ha'
        exact sl.dj j j' a ha ha'
  · have ha : a ∈ (if j = i then A' else fp j) := ha
    by_cases q : j = i
    · rw [if_pos q] at ha
      rcases hA a ha with h | h
      · rw [q]; exact sl.nw i a h
      · exact .inl h.1
    · rw [if_neg q] at ha
      exact sl.nw j a ha
/-- a slot is frozen -/
def frzAt (i : Nat) (ρ : Env) : Env := match ρ[i]?.getD none with
  | some d => if d.cold = true then ρ.set i (some d.frz) else ρ
  | none => ρ
theorem Stt.frz {F H : Hp} {σ : L2.St} {ρ : Env} (i : Nat) (hb : i ∉ E.bs) (s : Stt E F H σ ρ) : ∃ F', Ex F F' ∧ Stt E F' H σ (frzAt i ρ) := by
  unfold frzAt
  cases e : ρ[i]?.getD none with
  | none => exact ⟨F, .refl _, s⟩
  | some d =>
    by_cases c : d.cold = true
    · show ∃ F', Ex F F' ∧ Stt E F' H σ (if d.cold = true then ρ.set i (some d.frz) else ρ)
      rw [if_pos c]
      obtain ⟨fp, sl⟩ := s.sl
      have e' := some_some e
      obtain ⟨v, ev, r⟩ := sl.rp i d e'
      have hi : i < ρ.length := (List.getElem?_eq_some_iff.mp e').1
      have n : ∀ a ∈ fp i, F a = none := fun a ha => (sl.there ha).1
      have he : ∀ a ∈ fp i, E.He a = none := fun a ha => (sl.nw i a ha).elim (fun z => z) fun z => absurd z.2 hb
      refine ⟨fz F H (fp i), fz_ex n, s.e0.trans (fz_ex n), fz_exH s.fh, fun a z w => ?_, s.st, s.bt, by rw [List.length_set]; exact s.len, s.bv, fun j => if j = i then [] else fp j, fun j d2 e2 => ?_, fun j e2 => ?_, fun j => ?_, fun j j' a ha ha' => ?_, fun j a ha => ?_⟩
      · by_cases q : a ∈ fp i
        · exact absurd (he a q) w
        · rw [fz_out q]; exact s.fr a z w
      · show ∃ v, σ[j]? = some (some v) ∧ Rp E.k (fz F H (fp i)) H d2 v (if j = i then [] else fp j)
        by_cases q : j = i
        · subst q
          rw [List.getElem?_set_self hi] at e2
          cases e2
          rw [if_pos rfl]
          exact ⟨v, ev, Rp.frz n d v _ c (fun _ z => z) r⟩
        · rw [List.getElem?_set_ne (Ne.symm q)] at e2
          obtain ⟨v', ev', r'⟩ := sl.rp j d2 e2
          rw [if_neg q]
          refine ⟨v', ev', Rp.mono (fz_ex n) d2 v' _ (fun a ha o e3 n3 => ⟨e3, ?_⟩) r'⟩
          rw [fz_out fun z => q (sl.dj j i a ha z)]
          exact n3
      · show (if j = i then [] else fp j) = []
        by_cases q : j = i
        · rw [if_pos q]
        · rw [if_neg q]
          rw [List.getElem?_set_ne (Ne.symm q)] at e2
          exact sl.em j e2
      · show (if j = i then [] else fp j).Nodup
        by_cases q : j = i
        · rw [if_pos q]; exact .nil
        · rw [if_neg q]; exact sl.nd j
      · have ha : a ∈ (if j = i then [] else fp j) := ha
        have ha' : a ∈ (if j' = i then [] else fp j') := ha'
        by_cases q : j = i
        · rw [if_pos q] at ha; cases ha
        · by_cases q' : j' = i
          · rw [if_pos q'] at ha'; cases ha'
          · rw [if_neg q] at ha
            rw [if_neg q'] at ha'
            exact sl.dj j j' a ha ha'
      · have ha : a ∈ (if j = i then [] else fp j) := ha
        by_cases q : j = i
        · rw [if_pos q] at ha; cases ha
        · rw [if_neg q] at ha
          exact sl.nw j a ha
    · show ∃ F', Ex F F' ∧ Stt E F' H σ (if d.cold = true then ρ.set i (some d.frz) else ρ)
      rw [if_neg c]
      exact ⟨F, .refl _, s⟩
end
end Dv
end
section
set_option maxRecDepth 100000
set_option maxHeartbeats 1000000
namespace Dv
open PySem PySem.Spec PyProof.Rows L2

section
variable {X : Cx} {E : En} {W : WX}
/-! ### name = e -/
def sAsg (i : Nat) (f : Env → R D) : Env → SR := fun ρ => (f ρ).st ρ fun d => .nx (ρ.set i (some d))
@[simp] theorem sAsg_eq (i : Nat) (f : Env → R D) (ρ : Env) : sAsg i f ρ = (f ρ).st ρ fun d => .nx (ρ.set i (some d)) := rfl
theorem ss_asg {i : Nat} {x : Str} {e : Expr} {f : Env → R D} {pos pos' : Pos} (hN : X.N.Nodup) (hi : X.N[i]? = some x) (hx : Loc X.env.scope x) (hb : i ∉ E.bs) (h : EO X E W e f) (hs : swapsWith e (some (.Name x pos')) pos.line X.env = pure false := by rfl) (hf : X.fn x = true ∨ X.env.scope.names.lookup x = some .local := by first | exact .inl rfl | exact .inr rfl | assumption) :
    SS X E W (.Assign [.Name x pos'] e pos) (sAsg i f) := by
  refine ⟨ps_mono (ps_set hN hi hx h.pe hs hf) fun Z σ H h => ?_⟩
  obtain ⟨F, ρ, s, q⟩ := h
  refine ⟨F, ρ, s, Res.mono q.st (fun d _ q F1 H1 v A t1 r1 nd u => ?_) fun c _ z => SRes.exc s z⟩
  exact q F1 H1 _ t1.ff (s.set t1 r1 nd u hb)
/-- name op= e, by the operator's in-place rule -/
def IpR (X : Cx) (op : Operator) (r : R2) : Prop := PIp X op r
theorem ss_aug {i : Nat} {x : Str} {e : Expr} {op : Operator} {r : R2} {g : D → D → Option D} {f : Env → R D} {pos pos' : Pos} (hN : X.N.Nodup) (hi : X.N[i]? = some x) (hx : Loc X.env.scope x) (hb : i ∉ E.bs) (ho : PIp X op r) (hg : Says2 E r g) (h : EV X E W e f) (hf : X.fn x = true ∨ X.env.scope.names.lookup x = some .local := by first | exact .inl rfl | exact .inr rfl | assumption) :
    SS X E W (.AugAssign (.Name x pos') op e pos) (sAsg i (e2 g (eVar i) f)) := by
  refine ⟨ps_mono (ps_aug hN hi hx h.pe ho hf) fun Z σ H h => ?_⟩
  obtain ⟨F, ρ, s, q⟩ := h
  have q := q.st
  rw [e2_eq] at q
  obtain ⟨d0, e0, q⟩ := Res.opt q.bind
  obtain ⟨fp, sl⟩ := s.sl
  obtain ⟨v0, ev0, r0⟩ := sl.rp i d0 (some_some e0)
  refine ⟨v0, ev0, F, ρ, s, Res.mono (Res.bind q) (fun y _ q F1 H1 w B t1 r1 => ?_) fun c _ z => SRes.exc s z⟩
  obtain ⟨d, e, p⟩ := Res.opt q
  exact hg F1 H1 d0 y v0 w _ B _ d t1.fh (r0.tr t1) r1 e fun F2 H2 v A t2 r nd u => p F2 H2 _ (t1.trans t2).ff (s.set (t1.trans t2) r nd (fun a ha => none_back t1.hh (u a ha)) hb)
theorem ip_addA : PIp X .Add (ipI fun i j => i + j) := ip_add
theorem says_ipI {f : Int → Int → Int} : Says2 E (ipI f) (gI0 f) := says_I0
/-- int += int -/
theorem ss_augAdd {i : Nat} {x : Str} {e : Expr} {f : Env → R D} {pos pos' : Pos} (hN : X.N.Nodup) (hi : X.N[i]? = some x) (hx : Loc X.env.scope x) (hb : i ∉ E.bs) (h : EV X E W e f) (hf : X.fn x = true ∨ X.env.scope.names.lookup x = some .local := by first | exact .inl rfl | exact .inr rfl | assumption) :
    SS X E W (.AugAssign (.Name x pos') .Add e pos) (sAsg i (e2 (gI0 fun i j => i + j) (eVar i) f)) := ss_aug hN hi hx hb ip_add says_ipI h hf
theorem ss_augSub {i : Nat} {x : Str} {e : Expr} {f : Env → R D} {pos pos' : Pos} (hN : X.N.Nodup) (hi : X.N[i]? = some x) (hx : Loc X.env.scope x) (hb : i ∉ E.bs) (h : EV X E W e f) (hf : X.fn x = true ∨ X.env.scope.names.lookup x = some .local := by first | exact .inl rfl | exact .inr rfl | assumption) :
    SS X E W (.AugAssign (.Name x pos') .Sub e pos) (sAsg i (e2 gSub (eVar i) f)) := ss_aug hN hi hx hb ip_sub says_ipI h hf

/-! ### targets -/
def tG (E : En) (g : D → Env → Option Env) : TG := fun v σ H Q => ∃ F ρ d, Stt E F H σ ρ ∧ d.pure = true ∧ Rp E.k F H d v [] ∧ ∃ ρ', g d ρ = some ρ' ∧ ∀ σ', Stt E F H σ' ρ' → Q σ' H
def tGs (E : En) (g : List D → Env → Option Env) : TGs := fun vs σ H Q => ∃ F ρ ds, Stt E F H σ ρ ∧ D.pureL ds = true ∧ RpL E.k F H ds vs [] ∧ ∃ ρ', g ds ρ = some ρ' ∧ ∀ σ', Stt E F H σ' ρ' → Q σ' H
structure EG (X : Cx) (E : En) (e : Expr) (g : D → Env → Option Env) : Prop where
  pg : PG X e (tG E g)
structure EGs (X : Cx) (E : En) (es : List Expr) (g : List D → Env → Option Env) : Prop where
  pg : PGs X es (tGs E g)
theorem pg_mono {e : Expr} {t t' : TG} (h : PG X e t) (i : ∀ v σ H Q, t' v σ H Q → t v σ H Q) : PG X e t' := ⟨fun pins s σ H v u Q I r q => h.run pins s σ H v u Q I r (i v σ H Q q)⟩
theorem pgs_mono {e : List Expr} {t t' : TGs} (h : PGs X e t) (i : ∀ v σ H Q, t' v σ H Q → t v σ H Q) : PGs X e t' := ⟨fun pins s σ H v u Q I r q => h.run pins s σ H v u Q I r (i v σ H Q q)⟩
def gNm (i : Nat) : D → Env → Option Env := fun d ρ => some (ρ.set i (some d))
@[simp] theorem gNm_eq (i : Nat) (d : D) (ρ : Env) : gNm i d ρ = some (ρ.set i (some d)) := rfl
theorem eg_name {i : Nat} {x : Str} {pos : Pos} (hN : X.N.Nodup) (hi : X.N[i]? = some x) (hx : Loc X.env.scope x) (hb : i ∉ E.bs) (hf : X.fn x = true ∨ X.env.scope.names.lookup x = some .local := by first | exact .inl rfl | exact .inr rfl | assumption) : EG X E (.Name x pos) (gNm i) := by
  refine ⟨pg_mono (pg_name hN hi hx hf) fun v σ H Q h => ?_⟩
  obtain ⟨F, ρ, d, s, p, r, ρ', e, q⟩ := h
  cases e
  exact q _ (s.set (Tr.refl s.fh) r .nil (fun _ z => nomatch z) hb)
def gsNil : List D → Env → Option Env
  | [], ρ => some ρ
  | _, _ => none
def gsCons (g : D → Env → Option Env) (gs : List D → Env → Option Env) : List D → Env → Option Env
  | d :: ds, ρ => (g d ρ).bind fun ρ' => gs ds ρ'
  | [], _ => none
@[simp] theorem gsNil_nil (ρ : Env) : gsNil [] ρ = some ρ := rfl
@[simp] theorem gsCons_cons (g : D → Env → Option Env) (gs : List D → Env → Option Env) (d : D) (ds : List D) (ρ : Env) : gsCons g gs (d :: ds) ρ = (g d ρ).bind fun ρ' => gs ds ρ' := rfl
@[simp] theorem gsCons_nil (g : D → Env → Option Env) (gs : List D → Env → Option Env) (ρ : Env) : gsCons g gs [] ρ = none := rfl
theorem egs_nil : EGs X E [] gsNil := by
  refine ⟨pgs_mono pgs_nil fun vs σ H Q h => ?_⟩
  obtain ⟨F, ρ, ds, s, p, r, ρ', e, q⟩ := h
  cases ds with
  | nil => cases e; exact ⟨r.1, q σ s⟩
  | cons d ds => cases e
theorem egs_cons {e : Expr} {es : List Expr} {g : D → Env → Option Env} {gs : List D → Env → Option Env} (h1 : EG X E e g) (h2 : EGs X E es gs)
    (hs : (assignEach (e :: es) X.env).map (·.2) = assign e X.env :: (assignEach es X.env).map (·.2) := by rfl) : EGs X E (e :: es) (gsCons g gs) := by
  refine ⟨pgs_mono (pgs_cons h1.pg h2.pg hs) fun vs σ H Q h => ?_⟩
  obtain ⟨F, ρ, ds, s, p, r, ρ', e, q⟩ := h
  cases ds with
  | nil => cases e
  | cons d ds =>
    obtain ⟨v, ws, B, C, e1, e2, r1, r2⟩ := r
    obtain ⟨rfl, rfl⟩ := List.append_eq_nil_iff.mp e2.symm
    have p' : d.pure = true ∧ D.pureL ds = true := by simpa [D.pureL] using p
    rw [gsCons_cons] at e
    cases eg : g d ρ with
    | none => rw [eg] at e; cases e
    | some ρ1 =>
      rw [eg] at e
      exact ⟨v, ws, e1, F, ρ, d, s, p'.1, r1, ρ1, eg, fun σ' s' => ⟨F, ρ1, ds, s', p'.2, r2, ρ', e, q⟩⟩
def gTp (gs : List D → Env → Option Env) : D → Env → Option Env
  | .tup ds, ρ => gs ds ρ
  | _, _ => none
@[simp] theorem gTp_tup (gs : List D → Env → Option Env) (ds : List D) (ρ : Env) : gTp gs (.tup ds) ρ = gs ds ρ := rfl
theorem gs_len {X : Cx} : ∀ {es : List Expr} {gs : List D → Env → Option Env}, True → True := fun _ => trivial
theorem eg_tup {es : List Expr} {k : Nat} {gs : List D → Env → Option Env} {pos : Pos} (hK : E.k.K = X.K) (hc : X.calm = true) (h : EGs X E es gs) (n : Nat) (hlen : ∀ ds ρ ρ', gs ds ρ = some ρ' → ds.length = n)
    (hn : (assignEach es X.env).length = n := by rfl) (hst : (assignEach es X.env).findIdx? (·.1) = none := by rfl) : EG X E (.Tuple es k pos) (gTp gs) := by
  refine ⟨pg_mono (pg_tup hc h.pg hn hst) fun v σ H Q h => ?_⟩
  obtain ⟨F, ρ, d, s, p, r, ρ', e, q⟩ := h
  cases d with
  | tup ds =>
    obtain ⟨a, vs, rfl, s1, r⟩ := r
    exact ⟨a, vs, rfl, by rw [← hK]; exact ex_t s.fh s1, by rw [← r.len]; exact hlen ds ρ ρ' e, F, ρ, ds, s, p, r, ρ', e, q⟩
  | _ => cases e
theorem gsNil_len (ds : List D) (ρ ρ' : Env) (h : gsNil ds ρ = some ρ') : ds.length = 0 := by
  cases ds with
  | nil => rfl
  | cons d ds => cases h
theorem gsCons_len {g : D → Env → Option Env} {gs : List D → Env → Option Env} {n : Nat} (hg : ∀ ds ρ ρ', gs ds ρ = some ρ' → ds.length = n) (ds : List D) (ρ ρ' : Env) (h : gsCons g gs ds ρ = some ρ') : ds.length = n + 1 := by
  cases ds with
  | nil => cases h
  | cons d ds =>
    rw [gsCons_cons] at h
    cases eg : g d ρ with
    | none => rw [eg] at h; cases h
    | some ρ1 =>
      rw [eg] at h
      rw [List.length_cons, hg ds ρ1 ρ' h]
/-- a, b = e -/
def sUn (g : D → Env → Option Env) (f : Env → R D) : Env → SR := fun ρ => (f ρ).st ρ fun d => if d.pure = true then (match g d ρ with
  | some ρ' => .nx ρ'
  | none => .no) else .no
@[simp] theorem sUn_eq (g : D → Env → Option Env) (f : Env → R D) (ρ : Env) : sUn g f ρ = (f ρ).st ρ fun d => if d.pure = true then (match g d ρ with
  | some ρ' => .nx ρ'
  | none => .no) else .no := rfl
theorem ss_un {tg e : Expr} {f : Env → R D} {g : D → Env → Option Env} {pos : Pos} (h : EV X E W e f) (hg : EG X E tg g) (hs : swapsWithSole [tg] e pos.line X.env = pure false := by rfl) (hw : swappedStores [tg] e X.env = pure none := by rfl)
    (h1 : (assignEach [tg] X.env).map (·.2) = [assign tg X.env] := by rfl) : SS X E W (.Assign [tg] e pos) (sUn g f) := by
  refine ⟨ps_mono (ps_asg h.pe hg.pg hs hw h1) fun Z σ H h => ?_⟩
  obtain ⟨F, ρ, s, q⟩ := h
  refine ⟨F, ρ, s, Res.mono q.st (fun d _ q F1 H1 v A t1 r1 => ?_) fun c _ z => SRes.exc s z⟩
  by_cases c : d.pure = true
  · rw [if_pos c] at q
    cases eg : g d ρ with
    | none => rw [eg] at q; exact q.elim
    | some ρ' =>
      rw [eg] at q
      exact ⟨F1, ρ, d, s.tr t1, c, Rp.pure c (.refl _) r1, ρ', eg, fun σ' s' => q F1 H1 σ' t1.ff s'⟩
  · rw [if_neg c] at q
    exact q.elim
/-- a, b = x, y -/
def sPar (i j : Nat) (fs : Env → R (List D)) : Env → SR := fun ρ => (fs ρ).st ρ fun ds => match ds with
  | [x, y] => if x.pure = true ∧ y.pure = true then .nx ((ρ.set i (some x)).set j (some y)) else .no
  | _ => .no
@[simp] theorem sPar_eq (i j : Nat) (fs : Env → R (List D)) (ρ : Env) : sPar i j fs ρ = (fs ρ).st ρ fun ds => match ds with
  | [x, y] => if x.pure = true ∧ y.pure = true then .nx ((ρ.set i (some x)).set j (some y)) else .no
  | _ => .no := rfl
theorem ss_par {i j : Nat} {x y : Str} {a b : Expr} {fs : Env → R (List D)} {px py pt pos : Pos} {kt k2 : Nat} {pt2 : Pos} (hc : X.calm = true) (hN : X.N.Nodup) (hi : X.N[i]? = some x) (hj : X.N[j]? = some y) (hij : i ≠ j)
    (hx : X.env.scope.names.lookup x = some .local) (hy : X.env.scope.names.lookup y = some .local) (hbi : i ∉ E.bs) (hbj : j ∉ E.bs) (ha : EA X E W [a, b] fs)
    (hw : swappedStores [.Tuple [.Name x px, .Name y py] kt pt] (.Tuple [a, b] k2 pt2) X.env = pure (some [x, y]))
    (hs : swapsWithSole [.Tuple [.Name x px, .Name y py] kt pt] (.Tuple [a, b] k2 pt2) pos.line X.env = pure false := by rfl) :
    SS X E W (.Assign [.Tuple [.Name x px, .Name y py] kt pt] (.Tuple [a, b] k2 pt2) pos) (sPar i j fs) := by
  refine ⟨ps_mono (ps_par hc hN hi hj hij hx hy ha.pa hw hs) fun Z σ H h => ?_⟩
  obtain ⟨F, ρ, s, q⟩ := h
  refine ⟨F, ρ, s, Res.mono q.st (fun ds he q F1 H1 vs t1 r1 => ?_) fun c _ z => SRes.exc s z⟩
  clear he
  split at q
  · rename_i x y
    by_cases c : x.pure = true ∧ y.pure = true
    · rw [if_pos c] at q
      obtain ⟨v, w, A, B, rfl, rx, ry⟩ := Vw.two r1
      refine ⟨v, w, rfl, q F1 H1 _ t1.ff ?_⟩
      have s1 := s.set t1 (Rp.pure c.1 (.refl _) rx) .nil (fun _ z => nomatch z) hbi
      exact s1.set (Tr.refl t1.fh) (Rp.pure c.2 (.refl _) ry) .nil (fun _ z => nomatch z) hbj
    · rw [if_neg c] at q
      exact q.elim
  · exact q.elim

/-! ### return, if, an expression alone -/
def sRet (f : Env → R D) : Env → SR := fun ρ => (f ρ).st ρ fun d => .rt d ρ
@[simp] theorem sRet_eq (f : Env → R D) (ρ : Env) : sRet f ρ = (f ρ).st ρ fun d => .rt d ρ := rfl
theorem Stt.fin {F H F' H' : Hp} {σ : L2.St} {ρ : Env} {d : D} {v : V} {A : List Addr} (s : Stt E F H σ ρ) (t : Tr F H F' H') (r : Rp E.k F' H' d v A) (nd : A.Nodup) (u : ∀ a ∈ A, H a = none) : Fin E F' H' d v := by
  have s' := s.tr t
  exact ⟨s'.e0, s'.fh, s'.fr, s'.st, s'.bt, A, r, nd, fun a ha => s.new (u a ha)⟩
theorem ss_ret {e : Expr} {f : Env → R D} {pos : Pos} (h : EO X E W e f) : SS X E W (.Return (some e) pos) (sRet f) := by
  refine ⟨ps_mono (ps_ret h.pe) fun Z σ H h => ?_⟩
  obtain ⟨F, ρ, s, q⟩ := h
  refine ⟨F, ρ, s, Res.mono q.st (fun d _ q F1 H1 v A t1 r1 nd u => ?_) fun c _ z => SRes.exc s z⟩
  exact q F1 H1 σ v (s.tr t1) (s.fin t1 r1 nd u)
/-- return of a name, with what it owns -/
theorem ss_retV {i : Nat} {e : Expr} {pos : Pos} (hb : i ∉ E.bs) (h : PE X e (tVar i)) : SS X E W (.Return (some e) pos) (sRet (eVar i)) := by
  refine ⟨ps_mono (ps_ret h) fun Z σ H h => ?_⟩
  obtain ⟨F, ρ, s, q⟩ := h
  obtain ⟨d, e, q⟩ := Res.opt q.st
  obtain ⟨fp, sl⟩ := s.sl
  obtain ⟨v, ev, r⟩ := sl.rp i d (some_some e)
  refine ⟨v, ev, q F H σ v s ⟨s.e0, s.fh, s.fr, s.st, s.bt, fp i, r, sl.nd i, fun a ha => (sl.nw i a ha).elim (fun z => z) fun z => absurd z.2 hb⟩⟩
def sRetN : Env → SR := fun ρ => .rt .non ρ
@[simp] theorem sRetN_eq (ρ : Env) : sRetN ρ = .rt .non ρ := rfl
theorem ss_retN {pos : Pos} : SS X E W (.Return none pos) sRetN := by
  refine ⟨ps_mono ps_retN fun Z σ H h => ?_⟩
  obtain ⟨F, ρ, s, q⟩ := h
  exact q F H σ .non s (s.fin (Tr.refl s.fh) ⟨rfl, rfl⟩ .nil fun _ z => nomatch z)
def sIf (t : Env → R Bool) (f g : Env → SR) : Env → SR := fun ρ => (t ρ).st ρ fun b => if b = true then f ρ else g ρ
@[simp] theorem sIf_eq (t : Env → R Bool) (f g : Env → SR) (ρ : Env) : sIf t f g ρ = (t ρ).st ρ fun b => if b = true then f ρ else g ρ := rfl
theorem SRes.at {F F' : Hp} {Z : Ends} {r : SR} (h : SRes E W F Z r) (x : Ex F F') : SRes E W F' Z r := SRes.mono h x (fun _ _ z => z) (fun _ _ z => z) (fun _ _ z => z) fun _ _ z => z
theorem ss_if {c : Expr} {a b : List Stmt} {t : Env → R Bool} {f g : Env → SR} {pos : Pos} (hc : ET X E W c t) (ha : SB X E W a f) (hb : SB X E W b g) : SS X E W (.If c a b pos) (sIf t f g) := by
  refine ⟨ps_mono (ps_if hc.pt ha.ps hb.ps) fun Z σ H h => ?_⟩
  obtain ⟨F, ρ, s, q⟩ := h
  refine ⟨F, ρ, s, Res.mono q.st (fun b _ q F1 H1 t1 => ?_) fun c _ z => SRes.exc s z⟩
  cases b with
  | true => exact ⟨F1, ρ, s.tr t1, SRes.at q t1.ff⟩
  | false => exact ⟨F1, ρ, s.tr t1, SRes.at q t1.ff⟩
def sDrop (f : Env → R D) : Env → SR := fun ρ => (f ρ).st ρ fun _ => .nx ρ
@[simp] theorem sDrop_eq (f : Env → R D) (ρ : Env) : sDrop f ρ = (f ρ).st ρ fun _ => .nx ρ := rfl
theorem ss_drop {e : Expr} {f : Env → R D} {pos : Pos} (h : EV X E W e f) (hs : swapsWith e none pos.line X.env = pure false := by rfl) : SS X E W (.Expr e pos) (sDrop f) := by
  refine ⟨ps_mono (ps_expr h.pe hs) fun Z σ H h => ?_⟩
  obtain ⟨F, ρ, s, q⟩ := h
  exact ⟨F, ρ, s, Res.mono q.st (fun d _ q F1 H1 v A t1 r1 => q F1 H1 σ t1.ff (s.tr t1)) fun c _ z => SRes.exc s z⟩
/-- a name's list is frozen ahead of a statement (nothing in the program) -/
def sFz (i : Nat) (f : Env → SR) : Env → SR := fun ρ => f (frzAt i ρ)
@[simp] theorem sFz_eq (i : Nat) (f : Env → SR) (ρ : Env) : sFz i f ρ = f (frzAt i ρ) := rfl
theorem ss_fz {st : Stmt} {f : Env → SR} (i : Nat) (hb : i ∉ E.bs) (h : SS X E W st f) : SS X E W st (sFz i f) := by
  refine ⟨ps_mono h.ps fun Z σ H h => ?_⟩
  obtain ⟨F, ρ, s, q⟩ := h
  obtain ⟨F', x, s'⟩ := s.frz i hb
  exact ⟨F', _, s', SRes.at q x⟩
end
end Dv
end
section
set_option maxRecDepth 100000
set_option maxHeartbeats 1000000
namespace Dv
open PySem PySem.Spec PyProof.Rows L2

/-! ### what a for walks -/
/-- J yields the data ds, whatever is added to F -/
structure Wk (k : Kx) (J : It) (F : Hp) (ds : List D) : Prop where
  go : ∀ i, i < ds.length → ∀ F' H, Ex F F' → Ex F' H → J.go i H
  stop : ∀ F' H, Ex F F' → Ex F' H → J.stop ds.length H
  yld : ∀ i d, ds[i]? = some d → ∀ F' H x H', Ex F F' → Ex F' H → J.yld i H x H' → d.pure = true ∧ ∃ F'', Tr F' H F'' H' ∧ Rp k F'' H' d x []
def tI (E : En) (W : WX) (f : Env → R (List D)) : TI := fun σ H P => ∃ F ρ, Stt E F H σ ρ ∧
  Res (f ρ) (fun ds => ∀ F' H' J, Tr F H F' H' → Wk E.k J F' ds → P J H') (fun c => ∀ F' H', Tr F H F' H' → W (E.ec c) none σ H')
structure EI (X : Cx) (E : En) (W : WX) (tg e : Expr) (f : Env → R (List D)) : Prop where
  pi : PI X tg e (tI E W f)
theorem pi_mono {X : Cx} {tg e : Expr} {t t' : TI} (h : PI X tg e t) (i : ∀ σ H Q, t' σ H Q → t σ H Q) : PI X tg e t' := ⟨fun pins s σ H Q I q => h.run pins s σ H Q I (i σ H Q q)⟩
theorem pureL_get {ds : List D} {i : Nat} {d : D} (p : D.pureL ds = true) (e : ds[i]? = some d) : d.pure = true := by
  induction ds generalizing i with
  | nil => simp at e
  | cons x xs ih =>
    have p' : x.pure = true ∧ D.pureL xs = true := by simpa [D.pureL] using p
    cases i with
    | zero => have e' : x = d := by simpa using e
              rw [← e']; exact p'.1
    | succ i => exact ih p'.2 (by simpa using e)
section
variable {X : Cx} {E : En} {W : WX}
theorem RpL.get0 {k : Kx} {F H : Hp} {ds : List D} {vs : List V} {i : Nat} {d : D} (h : RpL k F H ds vs []) (e : ds[i]? = some d) : ∃ v, vs[i]? = some v ∧ Rp k F H d v [] := by
  obtain ⟨v, B, h1, h2, h3⟩ := RpL.get h e
  have : B = [] := List.eq_nil_iff_forall_not_mem.mpr fun a ha => nomatch h3 a ha
  subst this
  exact ⟨v, h1, h2⟩
theorem wk_list {k : Kx} {F H : Hp} {a : Addr} {vs : List V} {ds : List D} (s : SqL k.K F a vs) (p : D.pureL ds = true) (r : RpL k F H ds vs []) : Wk k (Itl k.K a) F ds where
  go := fun i hi F' H' x y => ⟨vs, vs[i]'(by rw [← r.len]; exact hi), ex_l (x.trans y) s, List.getElem?_eq_getElem _⟩
  stop := fun F' H' x y => ⟨vs, ex_l (x.trans y) s, by rw [r.len]; exact Nat.le_refl _⟩
  yld := fun i d e F' H' v H'' x y h => by
    obtain ⟨rfl, h⟩ := h
    obtain ⟨w, e1, r1⟩ := r.get0 e
    have e2 := h vs (ex_l (x.trans y) s)
    rw [e1] at e2
    cases e2
    have pd := pureL_get p e
    exact ⟨pd, F', Tr.refl y, Rp.pure pd x r1⟩
theorem wk_tup {k : Kx} {F H : Hp} {a : Addr} {vs : List V} {ds : List D} (s : SqT k.K F a vs) (p : D.pureL ds = true) (r : RpL k F H ds vs []) : Wk k (Itt k.K a) F ds where
  go := fun i hi F' H' x y => ⟨vs, vs[i]'(by rw [← r.len]; exact hi), ex_t (x.trans y) s, List.getElem?_eq_getElem _⟩
  stop := fun F' H' x y => ⟨vs, ex_t (x.trans y) s, by rw [r.len]; exact Nat.le_refl _⟩
  yld := fun i d e F' H' v H'' x y h => by
    obtain ⟨rfl, h⟩ := h
    obtain ⟨w, e1, r1⟩ := r.get0 e
    have e2 := h vs (ex_t (x.trans y) s)
    rw [e1] at e2
    cases e2
    have pd := pureL_get p e
    exact ⟨pd, F', Tr.refl y, Rp.pure pd x r1⟩
theorem wk_str {k : Kx} {F : Hp} {x : Str} : Wk k (Its x) F (x.cps.toList.map fun c => .str ⟨#[c]⟩) where
  go := fun i hi F' H' _ _ => by
    rw [List.length_map] at hi
    exact hi
  stop := fun F' H' _ _ => by
    rw [List.length_map]
    exact Nat.le_refl _
  yld := fun i d e F' H' v H'' _ y h => by
    obtain ⟨rfl, c, e1, rfl⟩ := h
    rw [List.getElem?_map, Array.getElem?_toList, e1] at e
    cases e
    exact ⟨rfl, F', Tr.refl y, rfl, rfl⟩
/-- a list or a tuple is walked -/
def iSeq (K : PySem.W.Frag) (tl : TE) : TI := fun σ H P => tl σ H fun x H1 => (∃ a xs, x = .ref a ∧ SqL K H1 a xs ∧ P (Itl K a) H1) ∨ ∃ a xs, x = .ref a ∧ SqT K H1 a xs ∧ P (Itt K a) H1
theorem pi_seq {tg l : Expr} {tl : TE} (hl : PE X l tl) : PI X tg l (iSeq X.K tl) := by
  refine ⟨fun pins s σ H P I h => thn (hl.run pins s σ H _ I h) ?_⟩
  rintro v s1 ⟨x, H1, I1, r1, ⟨a, xs, rfl, hq, q⟩ | ⟨a, xs, rfl, hq, q⟩⟩
  · cases r1
    obtain ⟨its, _, pl, _⟩ := I1.list hq
    exact wpAny_pyIter_list pl.isList (pi_one I1 _ (turn_list a _) ⟨_, Heap.get?_push_size _ rfl, rfl, rfl⟩ q)
  · cases r1
    obtain ⟨its, _, pl, _⟩ := I1.tuple hq
    exact wpAny_pyIter_tuple (show s1.heap.IsTuple a its.toArray from pl) (pi_one I1 _ (turn_tuple a _) ⟨_, Heap.get?_push_size _ rfl, rfl, rfl⟩ q)
def walkD : D → Option (List D)
  | .lst false xs => if D.pureL xs = true then some xs else none
  | .tup xs => if D.pureL xs = true then some xs else none
  | .scr xs => if D.pureL xs = true then some xs else none
  | _ => none
@[simp] theorem walkD_lst (xs : List D) : walkD (.lst false xs) = if D.pureL xs = true then some xs else none := rfl
@[simp] theorem walkD_tup (xs : List D) : walkD (.tup xs) = if D.pureL xs = true then some xs else none := rfl
theorem walk_seq {F H F1 H1 : Hp} {d : D} {v : V} {A : List Addr} {ds : List D} {P : It → Hp → Prop} (t1 : Tr F H F1 H1) (r1 : Rp E.k F1 H1 d v A) (e : walkD d = some ds) (p : ∀ F' H' J, Tr F H F' H' → Wk E.k J F' ds → P J H') :
    (∃ a xs, v = .ref a ∧ SqL E.k.K H1 a xs ∧ P (Itl E.k.K a) H1) ∨ ∃ a xs, v = .ref a ∧ SqT E.k.K H1 a xs ∧ P (Itt E.k.K a) H1 := by
  cases d with
  | lst o xs =>
    cases o with
    | false =>
      obtain ⟨z, e⟩ := if_some (show (if D.pureL xs = true then some xs else none) = some ds from e)
      subst e
      obtain ⟨a, vs, B, rfl, r, h1, h2⟩ := r1
      have sF : SqL E.k.K F1 a vs := .inl (.inl (h1 rfl).1)
      exact .inl ⟨a, vs, rfl, ex_l t1.fh sF, p F1 H1 _ t1 (wk_list sF z (RpL.pure (H' := H1) z (.refl _) r))⟩
    | true => cases e
  | tup xs =>
    obtain ⟨z, e⟩ := if_some (show (if D.pureL xs = true then some xs else none) = some ds from e)
    subst e
    obtain ⟨a, vs, rfl, s, r⟩ := r1
    exact .inr ⟨a, vs, rfl, ex_t t1.fh s, p F1 H1 _ t1 (wk_tup s z (RpL.pure (H' := H1) z (.refl _) r))⟩
  | scr xs =>
    obtain ⟨z, e⟩ := if_some (show (if D.pureL xs = true then some xs else none) = some ds from e)
    subst e
    obtain ⟨a, vs, rfl, _, s, r⟩ := r1
    exact .inl ⟨a, vs, rfl, ex_l t1.fh s, p F1 H1 _ t1 (wk_list s z (RpL.pure (H' := H1) z (.refl _) r))⟩
  | _ => cases e
/-- looked at: a frozen list, a tuple -/
def iV (f : Env → R D) : Env → R (List D) := fun ρ => (f ρ).bind fun d => R.opt (walkD d)
/-- an own list: frozen for the walk -/
def iO (f : Env → R D) : Env → R (List D) := fun ρ => (f ρ).bind fun d => if d.cold = true then R.opt (walkD d.frz) else .no
@[simp] theorem iV_eq (f : Env → R D) (ρ : Env) : iV f ρ = (f ρ).bind fun d => R.opt (walkD d) := rfl
@[simp] theorem iO_eq (f : Env → R D) (ρ : Env) : iO f ρ = (f ρ).bind fun d => if d.cold = true then R.opt (walkD d.frz) else .no := rfl
theorem ei_v {tg e : Expr} {f : Env → R D} (hK : E.k.K = X.K) (h : EV X E W e f) : EI X E W tg e (iV f) := by
  refine ⟨pi_mono (pi_seq h.pe) fun σ H P q => ?_⟩
  obtain ⟨F, ρ, s, q⟩ := q
  refine ⟨F, ρ, s, Res.mono q.bind (fun d _ q F1 H1 v A t1 r1 => ?_) fun c _ z F' H' t => z F' H' t⟩
  obtain ⟨ds, e, p⟩ := Res.opt q
  rw [← hK]
  exact walk_seq t1 r1 e p
theorem ei_o {tg e : Expr} {f : Env → R D} (hK : E.k.K = X.K) (h : EO X E W e f) : EI X E W tg e (iO f) := by
  refine ⟨pi_mono (pi_seq h.pe) fun σ H P q => ?_⟩
  obtain ⟨F, ρ, s, q⟩ := q
  refine ⟨F, ρ, s, Res.mono q.bind (fun d _ q F1 H1 v A t1 r1 nd u => ?_) fun c _ z F' H' t => z F' H' t⟩
  by_cases c : d.cold = true
  · rw [if_pos c] at q
    obtain ⟨ds, e, p⟩ := Res.opt q
    rw [← hK]
    have n := fun a ha => (Rp.dom d v A r1 a ha).1
    exact walk_seq (tr_fz t1 n u) (Rp.frz (H' := H1) n d v A c (fun _ z => z) r1) e p
  · rw [if_neg c] at q
    exact q.elim
/-- the signs of a text -/
def strD : D → Option (List D)
  | .str x => some (x.cps.toList.map fun c => .str ⟨#[c]⟩)
  | _ => none
@[simp] theorem strD_str (x : Str) : strD (.str x) = some (x.cps.toList.map fun c => .str ⟨#[c]⟩) := rfl
def iS (f : Env → R D) : Env → R (List D) := fun ρ => (f ρ).bind fun d => R.opt (strD d)
@[simp] theorem iS_eq (f : Env → R D) (ρ : Env) : iS f ρ = (f ρ).bind fun d => R.opt (strD d) := rfl
theorem ei_s {tg e : Expr} {f : Env → R D} (h : EV X E W e f) : EI X E W tg e (iS f) := by
  refine ⟨pi_mono (pi_str h.pe) fun σ H P q => ?_⟩
  obtain ⟨F, ρ, s, q⟩ := q
  refine ⟨F, ρ, s, Res.mono q.bind (fun d _ q F1 H1 v A t1 r1 => ?_) fun c _ z F' H' t => z F' H' t⟩
  obtain ⟨ds, e, p⟩ := Res.opt q
  cases d with
  | str x => cases e; exact ⟨x, r1.1, p F1 H1 _ t1 wk_str⟩
  | _ => cases e
/-! range -/
def rngL (lo : Int) (n : Nat) : List D := (List.range n).map fun i : Nat => .int (lo + (i : Int))
theorem rngL_len (lo : Int) (n : Nat) : (rngL lo n).length = n := by simp [rngL]
theorem wk_rng {k : Kx} {F : Hp} {lo : Int} {n : Nat} : Wk k (Itr lo n) F (rngL lo n) where
  go := fun i hi F' H' _ _ => by
    rw [rngL_len] at hi
    exact hi
  stop := fun F' H' _ _ => by
    rw [rngL_len]
    exact Nat.le_refl _
  yld := fun i d e F' H' v H'' _ y h => by
    obtain ⟨rfl, rfl⟩ := h
    have hi : i < n := by
      have := (List.getElem?_eq_some_iff.mp e).1
      rw [rngL_len] at this
      exact this
    have e' : d = .int (lo + (i : Int)) := by
      unfold rngL at e
      rw [List.getElem?_map, List.getElem?_range hi] at e
      exact (Option.some.inj e).symm
    subst e'
    exact ⟨rfl, F', Tr.refl y, rfl, rfl⟩
noncomputable def rng1 : List D → Option (List D)
  | [.int j] => if W62 j then some (rngL 0 j.toNat) else none
  | _ => none
noncomputable def rng2 : List D → Option (List D)
  | [.int i, .int j] => if W62 i ∧ W62 j then some (rngL i (j - i).toNat) else none
  | _ => none
@[simp] theorem rng1_int (j : Int) : rng1 [.int j] = if W62 j then some (rngL 0 j.toNat) else none := rfl
@[simp] theorem rng2_int (i j : Int) : rng2 [.int i, .int j] = if W62 i ∧ W62 j then some (rngL i (j - i).toNat) else none := rfl
def iA (g : List D → Option (List D)) (fs : Env → R (List D)) : Env → R (List D) := fun ρ => (fs ρ).bind fun ds => R.opt (g ds)
@[simp] theorem iA_eq (g : List D → Option (List D)) (fs : Env → R (List D)) (ρ : Env) : iA g fs ρ = (fs ρ).bind fun ds => R.opt (g ds) := rfl
theorem ei_rng1 {tg a : Expr} {fs : Env → R (List D)} {p pos : Pos} (hg : Gl X "range") (hm : X.mg "range" = none) (ha : EA X E W [a] fs) (hs : starEach [a] X.env = [(false, eval a X.env)] := by rfl) : EI X E W tg (.Call (.Name "range" p) [a] [] pos) (iA rng1 fs) := by
  refine ⟨pi_mono (pi_range1 hg hm ha.pa hs) fun σ H P q => ?_⟩
  obtain ⟨F, ρ, s, q⟩ := q
  refine ⟨F, ρ, s, Res.mono q.bind (fun ds he q F1 H1 vs t1 r1 => ?_) fun c _ z F' H' t => z F' H' t⟩
  obtain ⟨es, e, p⟩ := Res.opt q
  clear he
  unfold rng1 at e
  split at e
  · obtain ⟨z, e⟩ := if_some e
    cases e
    obtain ⟨v, A, rfl, r⟩ := Vw.one r1
    rw [r.1]
    exact ⟨_, rfl, by have := z.1; omega, by have := z.2; omega, p F1 H1 _ t1 wk_rng⟩
  · cases e
theorem ei_rng2 {tg a b : Expr} {fs : Env → R (List D)} {p pos : Pos} (hg : Gl X "range") (hm : X.mg "range" = none) (ha : EA X E W [a, b] fs) (hs : starEach [a, b] X.env = [(false, eval a X.env), (false, eval b X.env)] := by rfl) (hs2 : starEach [b] X.env = [(false, eval b X.env)] := by rfl) : EI X E W tg (.Call (.Name "range" p) [a, b] [] pos) (iA rng2 fs) := by
  refine ⟨pi_mono (pi_range2 hg hm ha.pa hs hs2) fun σ H P q => ?_⟩
  obtain ⟨F, ρ, s, q⟩ := q
  refine ⟨F, ρ, s, Res.mono q.bind (fun ds he q F1 H1 vs t1 r1 => ?_) fun c _ z F' H' t => z F' H' t⟩
  obtain ⟨es, e, p⟩ := Res.opt q
  clear he
  unfold rng2 at e
  split at e
  · obtain ⟨z, e⟩ := if_some e
    cases e
    obtain ⟨v, w, A, B, rfl, r, r2⟩ := Vw.two r1
    rw [r.1, r2.1]
    obtain ⟨⟨z1, z2⟩, z3, z4⟩ := z
    exact ⟨_, _, rfl, ⟨by omega, by omega, by omega, by omega⟩, p F1 H1 _ t1 wk_rng⟩
  · cases e

/-! ### for -/
def forL (g : D → Env → Option Env) (b : Env → SR) : List D → Env → SR
  | [], ρ => .nx ρ
  | d :: ds, ρ => match g d ρ with
    | none => .no
    | some ρ1 => match b ρ1 with
      | .nx ρ2 => forL g b ds ρ2
      | .ct ρ2 => forL g b ds ρ2
      | .bk ρ2 => .nx ρ2
      | r => r
def sFor (it : Env → R (List D)) (g : D → Env → Option Env) (b : Env → SR) : Env → SR := fun ρ => (it ρ).st ρ fun ds => forL g b ds ρ
@[simp] theorem sFor_eq (it : Env → R (List D)) (g : D → Env → Option Env) (b : Env → SR) (ρ : Env) : sFor it g b ρ = (it ρ).st ρ fun ds => forL g b ds ρ := rfl
@[simp] theorem forL_nil (g : D → Env → Option Env) (b : Env → SR) (ρ : Env) : forL g b [] ρ = .nx ρ := rfl
theorem forL_cons (g : D → Env → Option Env) (b : Env → SR) (d : D) (ds : List D) (ρ : Env) : forL g b (d :: ds) ρ = match g d ρ with
    | none => .no
    | some ρ1 => match b ρ1 with
      | .nx ρ2 => forL g b ds ρ2
      | .ct ρ2 => forL g b ds ρ2
      | .bk ρ2 => .nx ρ2
      | r => r := rfl
theorem ss_for {tg iter : Expr} {body : List Stmt} {it : Env → R (List D)} {g : D → Env → Option Env} {b : Env → SR} {pos : Pos} (hp : PassesOwn (model X.prog X.w) X.A X.env X.xe) (hc : X.calm = true) (hi : EI X E W tg iter it) (hg : EG X E tg g) (hb : SB X E W body b)
    (hs : ∀ x, foldedSetIterable iter X.env x = pure x := by intro _; rfl) : SS X E W (.For tg iter body [] pos) (sFor it g b) := by
  refine ⟨ps_mono (ps_for hp hc hi.pi hg.pg hb.ps hs) fun Z σ H h => ?_⟩
  obtain ⟨F, ρ, s, q⟩ := h
  refine ⟨F, ρ, s, Res.mono q.st (fun ds _ q F1 H1 J t1 wk => ?_) fun c _ z => SRes.exc s z⟩
  refine ⟨fun i m σ' H' => ∃ F' ρ', Ex F1 F' ∧ Stt E F' H' σ' ρ' ∧ i ≤ ds.length ∧ m = ds.length - i ∧ SRes E W F' Z (forL g b (ds.drop i) ρ'), ⟨_, F1, ρ, .refl _, s.tr t1, Nat.zero_le _, rfl, SRes.at q t1.ff⟩, ?_⟩
  rintro i m σ' H' ⟨F', ρ', x, s', hi, rfl, q'⟩
  by_cases hlt : i < ds.length
  · have ed : ds.drop i = ds[i] :: ds.drop (i + 1) := List.drop_eq_getElem_cons hlt
    rw [ed, forL_cons] at q'
    refine .inr ⟨wk.go i hlt F' H' x s'.fh, fun σ2 H2 => ∃ F2 ρ2, Ex F1 F2 ∧ Stt E F2 H2 σ2 ρ2 ∧ SRes E W F2 Z (forL g b (ds.drop (i + 1)) ρ2), ?_, fun v H2 y => ?_⟩
    · rintro σ2 H2 ⟨F2, ρ2, x2, s2, q2⟩
      exact ⟨_, by omega, F2, ρ2, x2, s2, hlt, rfl, q2⟩
    · obtain ⟨pd, F2, t2, r2⟩ := wk.yld i ds[i] (List.getElem?_eq_getElem hlt) F' H' v H2 x s'.fh y
      cases eg : g ds[i] ρ' with
      | none => rw [eg] at q'; exact q'.elim
      | some ρ1 =>
        rw [eg] at q'
        refine ⟨F2, ρ', ds[i], s'.tr t2, pd, r2, ρ1, eg, fun σ3 s3 => ⟨F2, ρ1, s3, ?_⟩⟩
        have x12 := x.trans t2.ff
        have q' : SRes E W F' Z (match b ρ1 with
          | .nx ρ2 => forL g b (ds.drop (i + 1)) ρ2
          | .ct ρ2 => forL g b (ds.drop (i + 1)) ρ2
          | .bk ρ2 => .nx ρ2
          | r => r) := q'
        cases eb : b ρ1 with
        | no => rw [eb] at q'; exact q'
        | nx ρ2 => rw [eb] at q'; exact fun F4 H4 σ4 x4 s4 => ⟨F4, ρ2, x12.trans x4, s4, SRes.at q' (t2.ff.trans x4)⟩
        | ct ρ2 => rw [eb] at q'; exact fun F4 H4 σ4 x4 s4 => ⟨F4, ρ2, x12.trans x4, s4, SRes.at q' (t2.ff.trans x4)⟩
        | bk ρ2 => rw [eb] at q'; exact fun F4 H4 σ4 x4 s4 => q' F4 H4 σ4 (t2.ff.trans x4) s4
        | rt d ρ2 => rw [eb] at q'; exact q'
        | ex c ρ2 => rw [eb] at q'; exact fun F4 H4 σ4 x4 s4 => q' F4 H4 σ4 (t2.ff.trans x4) s4
  · have e : i = ds.length := by omega
    subst e
    rw [List.drop_length, forL_nil] at q'
    exact .inl ⟨wk.stop F' H' x s'.fh, q' F' H' σ' (.refl _) s'⟩

/-! ### while -/
def whN (t : Env → R Bool) (b : Env → SR) : Nat → Env → SR
  | 0, _ => .no
  | n + 1, ρ => (t ρ).st ρ fun c => if c = true then (match b ρ with
      | .nx ρ2 => whN t b n ρ2
      | .ct ρ2 => whN t b n ρ2
      | .bk ρ2 => .nx ρ2
      | r => r) else .nx ρ
open Classical in
noncomputable def sWhile (t : Env → R Bool) (b : Env → SR) : Env → SR := fun ρ => if h : ∃ n, whN t b n ρ ≠ .no then whN t b h.choose ρ else .no
theorem whN_succ (t : Env → R Bool) (b : Env → SR) (n : Nat) (ρ : Env) : whN t b (n + 1) ρ = (t ρ).st ρ fun c => if c = true then (match b ρ with
      | .nx ρ2 => whN t b n ρ2
      | .ct ρ2 => whN t b n ρ2
      | .bk ρ2 => .nx ρ2
      | r => r) else .nx ρ := rfl
theorem whN_more (t : Env → R Bool) (b : Env → SR) : ∀ (n : Nat) (ρ : Env), whN t b n ρ ≠ .no → whN t b (n + 1) ρ = whN t b n ρ
  | 0, _, h => absurd rfl h
  | n + 1, ρ, h => by
    rw [whN_succ] at h
    rw [whN_succ t b (n + 1), whN_succ t b n]
    cases et : t ρ with
    | no => rfl
    | ex c => rfl
    | ok c =>
      rw [et] at h
      cases c with
      | false => rfl
      | true =>
        simp only [R.st_ok, if_true] at h ⊢
        cases eb : b ρ with
        | nx ρ2 => rw [eb] at h; exact whN_more t b n ρ2 h
        | ct ρ2 => rw [eb] at h; exact whN_more t b n ρ2 h
        | _ => rfl
theorem whN_le (t : Env → R Bool) (b : Env → SR) {n m : Nat} {ρ : Env} (h : whN t b n ρ ≠ .no) (l : n ≤ m) : whN t b m ρ = whN t b n ρ := by
  induction l with
  | refl => rfl
  | step l ih => rw [whN_more t b _ ρ (by rw [ih]; exact h), ih]
theorem sWhile_of (t : Env → R Bool) (b : Env → SR) {n : Nat} {ρ : Env} (h : whN t b n ρ ≠ .no) : sWhile t b ρ = whN t b n ρ := by
  have ex : ∃ n, whN t b n ρ ≠ .no := ⟨n, h⟩
  unfold sWhile
  rw [dif_pos ex]
  rcases Nat.le_total n ex.choose with l | l
  · exact whN_le t b h l
  · exact (whN_le t b ex.choose_spec l).symm
/-- one turn -/
theorem sWhile_eq (t : Env → R Bool) (b : Env → SR) (ρ : Env) : sWhile t b ρ = (t ρ).st ρ fun c => if c = true then (match b ρ with
      | .nx ρ2 => sWhile t b ρ2
      | .ct ρ2 => sWhile t b ρ2
      | .bk ρ2 => .nx ρ2
      | r => r) else .nx ρ := by
  have go : ∀ ρ2, (∀ n, whN t b n ρ2 = .no) → sWhile t b ρ2 = .no := fun ρ2 h => by
    unfold sWhile
    rw [dif_neg fun ⟨n, z⟩ => z (h n)]
  have key : ∀ (f : Nat → SR) (r : SR), (∀ n, whN t b (n + 1) ρ = f n) → (∀ n, f n ≠ .no → f n = r) → ((∀ n, f n = .no) → r = .no) → sWhile t b ρ = r := fun f r h1 h2 h3 => by
    by_cases hx : ∃ n, f n ≠ .no
    · obtain ⟨n, hn⟩ := hx
      rw [← h2 n hn, ← h1 n]
      exact sWhile_of t b (by rw [h1 n]; exact hn)
    · have all : ∀ n, f n = .no := fun n => Classical.byContradiction fun z => hx ⟨n, z⟩
      rw [h3 all]
      refine go ρ fun n => ?_
      cases n with
      | zero => rfl
      | succ n => rw [h1 n, all n]
  cases et : t ρ with
  | no => exact key (fun _ => .no) _ (fun n => by rw [whN_succ, et]; rfl) (fun n h => absurd rfl h) fun _ => rfl
  | ex c => exact key (fun _ => .ex c ρ) _ (fun n => by rw [whN_succ, et]; rfl) (fun n _ => rfl) fun h => h 0
  | ok c =>
    cases c with
    | false => exact key (fun _ => .nx ρ) _ (fun n => by rw [whN_succ, et]; rfl) (fun n _ => rfl) fun h => h 0
    | true =>
      simp only [R.st_ok, if_true]
      cases eb : b ρ with
      | nx ρ2 => exact key (fun n => whN t b n ρ2) _ (fun n => by rw [whN_succ, et, eb]; rfl) (fun n h => (sWhile_of t b h).symm) fun h => go ρ2 h
      | ct ρ2 => exact key (fun n => whN t b n ρ2) _ (fun n => by rw [whN_succ, et, eb]; rfl) (fun n h => (sWhile_of t b h).symm) fun h => go ρ2 h
      | no => exact key (fun n => .no) _ (fun n => by rw [whN_succ, et, eb]; rfl) (fun n h => absurd rfl h) fun _ => rfl
      | bk ρ2 => exact key (fun n => .nx ρ2) _ (fun n => by rw [whN_succ, et, eb]; rfl) (fun n _ => rfl) fun h => h 0
      | rt d ρ2 => exact key (fun n => .rt d ρ2) _ (fun n => by rw [whN_succ, et, eb]; rfl) (fun n _ => rfl) fun h => h 0
      | ex c ρ2 => exact key (fun n => .ex c ρ2) _ (fun n => by rw [whN_succ, et, eb]; rfl) (fun n _ => rfl) fun h => h 0
theorem ss_while {c : Expr} {body : List Stmt} {t : Env → R Bool} {b : Env → SR} {pos : Pos} (hp : PassesOwn (model X.prog X.w) X.A X.env X.xe) (hc : ET X E W c t) (hb : SB X E W body b) : SS X E W (.While c body [] pos) (sWhile t b) := by
  refine ⟨ps_mono (ps_while hp hc.pt hb.ps) fun Z σ H h => ?_⟩
  obtain ⟨F, ρ, s, q⟩ := h
  have ex : ∃ n, sWhile t b ρ = whN t b n ρ := by
    by_cases h : ∃ n, whN t b n ρ ≠ .no
    · obtain ⟨n, h⟩ := h
      exact ⟨n, sWhile_of t b h⟩
    · refine ⟨0, ?_⟩
      unfold sWhile
      rw [dif_neg h]
      rfl
  obtain ⟨n, en⟩ := ex
  rw [en] at q
  refine ⟨fun m σ' H' => ∃ F' ρ', Stt E F' H' σ' ρ' ∧ SRes E W F' Z (whN t b m ρ'), ⟨n, F, ρ, s, q⟩, ?_⟩
  rintro m σ' H' ⟨F', ρ', s', q'⟩
  cases m with
  | zero => exact q'.elim
  | succ m =>
    rw [whN_succ] at q'
    refine ⟨F', ρ', s', Res.mono q'.st (fun k _ q F1 H1 t1 => ?_) fun c _ z => SRes.exc s' z⟩
    cases k with
    | false => exact q F1 H1 σ' t1.ff (s'.tr t1)
    | true =>
      rw [if_pos rfl]
      refine ⟨fun σ2 H2 => ∃ F2 ρ2, Stt E F2 H2 σ2 ρ2 ∧ SRes E W F2 Z (whN t b m ρ2), fun σ2 H2 h => ⟨m, by omega, h⟩, F1, ρ', s'.tr t1, ?_⟩
      have q : SRes E W F' Z (match b ρ' with
          | .nx ρ2 => whN t b m ρ2
          | .ct ρ2 => whN t b m ρ2
          | .bk ρ2 => .nx ρ2
          | r => r) := q
      cases eb : b ρ' with
      | no => rw [eb] at q; exact q
      | nx ρ2 => rw [eb] at q; exact fun F4 H4 σ4 x4 s4 => ⟨F4, ρ2, s4, SRes.at q (t1.ff.trans x4)⟩
      | ct ρ2 => rw [eb] at q; exact fun F4 H4 σ4 x4 s4 => ⟨F4, ρ2, s4, SRes.at q (t1.ff.trans x4)⟩
      | bk ρ2 => rw [eb] at q; exact fun F4 H4 σ4 x4 s4 => q F4 H4 σ4 (t1.ff.trans x4) s4
      | rt d ρ2 => rw [eb] at q; exact q
      | ex c ρ2 => rw [eb] at q; exact fun F4 H4 σ4 x4 s4 => q F4 H4 σ4 (t1.ff.trans x4) s4
end
end Dv
end
section
set_option maxRecDepth 100000
set_option maxHeartbeats 1000000
namespace Dv
open PySem PySem.Spec PyProof.Rows L2

/-! ### a def -/
def SR.out : SR → R D
  | .rt d _ => .ok d
  | .nx _ => .ok .non
  | .ex c _ => .ex c
  | _ => .no
@[simp] theorem SR.out_rt (d : D) (ρ : Env) : (SR.rt d ρ).out = .ok d := rfl
@[simp] theorem SR.out_nx (ρ : Env) : (SR.nx ρ).out = .ok .non := rfl
@[simp] theorem SR.out_ex (c : Nat) (ρ : Env) : (SR.ex c ρ).out = .ex c := rfl
@[simp] theorem SR.out_no : SR.no.out = .no := rfl
/-- the meaning of a def: n parameters, m slots -/
def fnD (n m : Nat) (b : Env → SR) : List D → R D := fun ds => if ds.length = n then (b (ds.map some ++ List.replicate (m - n) none)).out else .no
theorem rp_start {k : Kx} {F H : Hp} {ds : List D} {vs : List V} (r : RpL k F H ds vs []) (m : Nat) (i : Nat) (d : D) (e : (ds.map some ++ List.replicate m none)[i]? = some (some d)) : ∃ v, (vs.map some ++ List.replicate m (none : Option V))[i]? = some (some v) ∧ Rp k F H d v [] := by
  have hl := r.len
  by_cases hi : i < ds.length
  · rw [List.getElem?_append_left (by rw [List.length_map]; exact hi), List.getElem?_map] at e
    cases q : ds[i]? with
    | none => rw [q] at e; cases e
    | some d' =>
      rw [q] at e
      cases e
      obtain ⟨v, h1, h2⟩ := r.get0 q
      exact ⟨v, by rw [List.getElem?_append_left (by rw [List.length_map, ← hl]; exact hi), List.getElem?_map, h1]; rfl, h2⟩
  · rw [List.getElem?_append_right (by rw [List.length_map]; omega)] at e
    have := List.mem_of_getElem? e
    rw [List.mem_replicate] at this
    cases this.2
section
variable {P : Program} {w : World} {K : PySem.W.Frag} {mg : Str → Option Value} {base : Heap}
theorem Stt.toTr {E : En} {F H : Hp} {σ : L2.St} {ρ : Env} (hB : E.B = []) (s : Stt E F H σ ρ) : Tr E.F0 E.He F H :=
  ⟨s.e0, fun a o e => s.st a o e (by rw [hB]; exact fun z => nomatch z), s.fh, s.fr⟩
theorem Fin.toTr {E : En} {F H : Hp} {d : D} {v : V} (hB : E.B = []) (s : Fin E F H d v) : Tr E.F0 E.He F H :=
  ⟨s.e0, fun a o e => s.st a o e (by rw [hB]; exact fun z => nomatch z), s.fh, s.fr⟩
/-- a def without borrowed arguments, at its entry -/
abbrev En0 (kx : Kx) (ec : Nat → Value) (He F0 : Hp) (v0 : L2.St) : En := ⟨kx, ec, He, F0, [], [], v0⟩
theorem fn_ok {x qual : Str} {st : Stmt} {f : Addr} {fd : FuncData} {N ps : List Str} (k n m : Nat) (kx : Kx) (ec : Nat → Value) {b : Env → SR} (hn : ps.length = n) (hm : N.length = m) (G : Fun K x qual st f fd) (S : FnScope N ps (defScope st))
    (hbody : ∀ (cdv : Value) (A : Around) (outer : List PySem.Env) (s : Shared) (H : Hp) (Ew : XK) (He F0 : Hp) (v0 : L2.St) (W : WX), Room k (A.deeper (envOfC qual (defScope st) s.heap.objs.size f cdv)) →
      Takes (cxOf (L2.CX P w) P w K mg base N qual (defScope st) f cdv A outer s H Ew) W → PassesOwn (model P w) (cxOf (L2.CX P w) P w K mg base N qual (defScope st) f cdv A outer s H Ew).A (cxOf (L2.CX P w) P w K mg base N qual (defScope st) f cdv A outer s H Ew).env (cxOf (L2.CX P w) P w K mg base N qual (defScope st) f cdv A outer s H Ew).xe →
      SB (cxOf (L2.CX P w) P w K mg base N qual (defScope st) f cdv A outer s H Ew) (En0 kx ec He F0 v0) W (defBody st) b) :
    FnOk P w K mg base (L2.CX P w) (k + 1) f fd ps (spD kx ec n (fnD n m b)) := by
  subst hn hm
  refine G.okX S (fun vs H Q E h => spD_len h) fun cdv A outer s H vs Q Ew hr h => ?_
  obtain ⟨F, ds, x, r, p, l, h⟩ := h
  have sb := hbody cdv A outer s H Ew H F (L2.start N vs) (fun cls d _ H => Ew cls d H) hr (takes_of rfl rfl rfl rfl) (passes_of rfl)
  refine ⟨_, sb.ps, F, ds.map some ++ List.replicate (N.length - ps.length) none, ?_, ?_⟩
  · have hl := r.len
    refine ⟨.refl _, x, fun a e _ => e, fun a o e _ => e, (fun a z => nomatch z), ?_, (fun i z => nomatch z), fun _ => [], fun i d e => ?_, fun _ _ => rfl, fun _ => .nil, (fun _ _ _ z => nomatch z), (fun _ _ z => nomatch z)⟩
    · unfold L2.start
      rw [List.length_append, List.length_append, List.length_map, List.length_map, List.length_replicate, List.length_replicate, ← hl, l]
    · unfold L2.start
      rw [← hl, l]
      exact rp_start r _ i d e
  · unfold fnD at h
    rw [if_pos l] at h
    cases eb : b (ds.map some ++ List.replicate (N.length - ps.length) none) with
    | no => rw [eb] at h; exact h.elim
    | bk ρ => rw [eb] at h; exact h.elim
    | ct ρ => rw [eb] at h; exact h.elim
    | nx ρ => rw [eb] at h; exact fun F' H' σ _ s' => h F' H' .non [] (s'.toTr rfl) ⟨rfl, rfl⟩ .nil fun _ z => nomatch z
    | rt d ρ =>
      rw [eb] at h
      intro F' H' σ v s' fn
      obtain ⟨A', r', nd, u⟩ := fn.rp
      exact h F' H' v A' (fn.toTr rfl) r' nd u
    | ex c ρ => rw [eb] at h; exact fun F' H' σ _ s' => h F' H' (s'.toTr rfl)
/-- a module's constant as data -/
def Glob (kx : Kx) (mg : Str → Option Value) (x : Str) (d : D) : Prop := ∃ u v, mg x = some u ∧ RelV v u ∧ ∀ F H, Rp kx F H d v []
theorem glob_int {kx : Kx} {mg : Str → Option Value} {x : Str} {i : Int} {t : Tok} (h : mg x = some (.int i t)) : Glob kx mg x (.int i) := ⟨_, .int i, h, ⟨_, rfl⟩, fun _ _ => ⟨rfl, rfl⟩⟩
theorem glob_str {kx : Kx} {mg : Str → Option Value} {x : Str} {i : Str} {t : Tok} (h : mg x = some (.str i t)) : Glob kx mg x (.str i) := ⟨_, .str i, h, ⟨_, rfl⟩, fun _ _ => ⟨rfl, rfl⟩⟩
theorem eo_g {X : Cx} {E : En} {W : WX} {x : Str} {d : D} {pos : Pos} (hg : Gl X x) (h : Glob E.k X.mg x d) (hd : (x == ("__debug__" : Str)) = false := by decide) : EO X E W (.Name x pos) (eC d) :=
  let ⟨_, _, hm, r, rp⟩ := h
  eo_glob hg hm r rp hd
/-- a weaker meaning -/
theorem FnOk.den {kx : Kx} {ec : Nat → Value} {n k : Nat} {f : Addr} {fd : FuncData} {ps : List Str} {g g' : List D → R D} (G : FnOk P w K mg base (L2.CX P w) k f fd ps (spD kx ec n g)) (h : ∀ ds, g' ds ≠ .no → g ds = g' ds) : FnOk P w K mg base (L2.CX P w) k f fd ps (spD kx ec n g') :=
  G.imp fun vs H Q E ⟨F, ds, x, r, p, l, q⟩ => ⟨F, ds, x, r, p, l, by
    have : g' ds ≠ .no := fun z => by rw [z] at q; exact q.elim
    rw [h ds this]; exact q⟩
end

section
variable {X : Cx} {E : En} {W : WX}
/-! ### raise -/
/-- an own exception class without an __init__ -/
structure ExF (K : PySem.W.Frag) (mg : Str → Option Value) (x : Str) (C : Addr) : Prop where
  g : mg x = some (.ref C)
  k : PySem.W.keepIn K (.ref C) = true
  x : PySem.W.excIn K C [.type "ValueError", .type "Exception", .type "BaseException", .type "object"] "ValueError.__new__" = true
  b : PySem.W.subIn K (.ref C) (.type "BaseException") = some true
  t : PySem.W.typeIn K (.ref C) = some (.type "type")
def sRaise (c : Nat) : Env → SR := fun ρ => .ex c ρ
@[simp] theorem sRaise_eq (c : Nat) (ρ : Env) : sRaise c ρ = .ex c ρ := rfl
theorem ss_raise {c : Nat} {C : Addr} {x m : Str} {j : Nat} {p p2 pos pos2 : Pos} (T : ExF X.K X.mg x C) (hE : E.ec c = .ref C) (hc : X.calm = true) (tk : Takes X W) (hg : Gl X x) (hdb : (x == ("__debug__" : Str)) = false := by decide) :
    SS X E W (.Raise (some (.Call (.Name x p) [.Constant (.str m) j p2] [] pos)) none pos2) (sRaise c) := by
  refine ⟨ps_mono (ps_raise hc tk (pmk_own PySem.F.excBase_ValueError T.x T.g T.k (raises_own T.b T.t) hg hdb)) fun Z σ H h => ?_⟩
  obtain ⟨F, ρ, s, q⟩ := h
  show W (.ref C) none σ H
  rw [← hE]
  exact q F H σ (.refl _) s

/-! ### lists that change -/
theorem lstO {F H : Hp} {xs : List D} {v : V} {A : List Addr} (h : Rp E.k F H (.lst true xs) v A) : ∃ l vs B, v = .ref l ∧ A = l :: B ∧ F l = none ∧ H l = some (.lst vs) ∧ RpL E.k F H xs vs B := by
  obtain ⟨a, vs, B, e, r, _, h2⟩ := h
  exact ⟨a, vs, B, e, (h2 rfl).1, (h2 rfl).2.1, (h2 rfl).2.2, r⟩
theorem RpL.upd {k : Kx} {F H : Hp} {ds : List D} {vs : List V} {A : List Addr} {l : Addr} {o : HO} (r : RpL k F H ds vs A) (n : l ∉ A) : RpL k F (upd H l o) ds vs A :=
  RpL.mono (.refl _) ds vs A (fun a ha o2 e2 m => ⟨by rw [upd_ne fun z => n (by rw [← z]; exact ha)]; exact e2, m⟩) r
theorem Rp.upd {k : Kx} {F H : Hp} {d : D} {v : V} {A : List Addr} {l : Addr} {o : HO} (r : Rp k F H d v A) (n : l ∉ A) : Rp k F (upd H l o) d v A :=
  Rp.mono (.refl _) d v A (fun a ha o2 e2 m => ⟨by rw [upd_ne fun z => n (by rw [← z]; exact ha)]; exact e2, m⟩) r
/-- the list in slot i becomes another one -/
def onL (i : Nat) (ρ : Env) (k : List D → SR) : SR := match ρ[i]?.getD none with
  | some (.lst true xs) => k xs
  | _ => .no
theorem onL_eq (i : Nat) (ρ : Env) (k : List D → SR) : onL i ρ k = match ρ[i]?.getD none with
  | some (.lst true xs) => k xs
  | _ => .no := rfl
theorem onL_of {F : Hp} {Z : Ends} {i : Nat} {ρ : Env} {k : List D → SR} (h : SRes E W F Z (onL i ρ k)) : ∃ xs, ρ[i]? = some (some (.lst true xs)) ∧ SRes E W F Z (k xs) := by
  unfold onL at h
  split at h
  · rename_i xs e
    exact ⟨xs, some_some e, h⟩
  · exact h.elim
theorem SRes.onL {F H : Hp} {Z : Ends} {i : Nat} {ρ : Env} {k : List D → SR} (h : SRes E W F Z (onL i ρ k)) : ∃ xs, ρ[i]? = some (some (.lst true xs)) ∧ SRes E W F Z (k xs) := onL_of h
/-- name.append(e) -/
def sApp (i : Nat) (f : Env → R D) : Env → SR := fun ρ => onL i ρ fun xs => (f ρ).st ρ fun d => if xs.length < 16777216 then .nx (ρ.set i (some (.lst true (xs ++ [d])))) else .no
@[simp] theorem sApp_eq (i : Nat) (f : Env → R D) (ρ : Env) : sApp i f ρ = onL i ρ fun xs => (f ρ).st ρ fun d => if xs.length < 16777216 then .nx (ρ.set i (some (.lst true (xs ++ [d])))) else .no := rfl
theorem res_ok {α : Type} {r : R α} {P : α → Prop} {Ew : Nat → Prop} (h : Res r P Ew) : (∃ a, r = .ok a ∧ P a) ∨ ∃ c, r = .ex c ∧ Ew c := by
  cases r with
  | no => exact h.elim
  | ok a => exact .inl ⟨a, rfl, h⟩
  | ex c => exact .inr ⟨c, rfl, h⟩
theorem ty_lst {k : Kx} {K : PySem.W.Frag} {F H : Hp} {o : Bool} {xs : List D} {v : V} {A : List Addr} (fh : Ex F H) (r : Rp k F H (.lst o xs) v A) : tyV K "list" v H := by
  obtain ⟨a, vs, B, rfl, e, _⟩ := Rp.lstW fh r
  exact .inl ⟨rfl, vs, .inl (.inl e)⟩
theorem ss_app {i : Nat} {o e : Expr} {f : Env → R D} {apos cpos pos : Pos} (ho : PE X o (tVar i)) (h : EO X E W e f) (hs : swapsWith (.Call (.Attribute o "append" apos) [e] [] cpos) none pos.line X.env = pure false := by rfl)
    (hbase : attributeBase o "append" X.env (eval o X.env) = eval o X.env := by rfl)
    (hfew : ((backTo cpos (starEach [e] X.env)).all (fun x => !x.1) && (backToKw cpos (keywordEach [] X.env)).all (fun x => x.1.isSome)
      && decide ([e].length + ([] : List Keyword).length + (if ([] : List Keyword).isEmpty then 0 else 1) < 30)) = true := by rfl)
    (hline : (apos.endLine == cpos.line) = true := by rfl) (hst : starEach [e] X.env = (false, eval e X.env) :: starEach [] X.env := by rfl) (hplain : (backTo cpos (starEach [] X.env)).any (·.1) = false := by rfl) :
    SS X E W (.Expr (.Call (.Attribute o "append" apos) [e] [] cpos) pos) (sApp i f) := by
  refine ⟨ps_mono (ps_expr (pe_bm PySem.F.plainAttrs_list PySem.F.slot_list_append PySem.F.type_list_append mt_append ho (pa_cons h.pe pa_nil hst) hbase hfew hline hst hplain) hs) fun Z σ H h => ?_⟩
  obtain ⟨F, ρ, s, q⟩ := h
  obtain ⟨xs, e, q⟩ := onL_of q
  obtain ⟨fp, sl⟩ := s.sl
  obtain ⟨v, ev, r⟩ := sl.rp i _ e
  refine ⟨v, ev, ty_lst s.fh r, F, ρ, s, Res.mono q.st (fun d _ q F1 H1 w A t1 r1 nd u => ?_) fun c _ z => SRes.exc s z⟩
  by_cases hz : xs.length < 16777216
  · rw [if_pos hz] at q
    have s1 := s.tr t1
    have sl1 : Sl E F1 H1 σ ρ fp := ⟨fun j d e => let ⟨v, ev, r⟩ := sl.rp j d e; ⟨v, ev, r.tr t1⟩, sl.em, sl.nd, sl.dj, sl.nw⟩
    obtain ⟨l, vs, B, rfl, eA, fl, hl, rl⟩ := lstO (r.tr t1)
    have lfp : l ∈ fp i := by rw [eA]; exact List.mem_cons_self
    have new : ∀ a ∈ A, E.He a = none ∧ ∀ j, a ∉ fp j := fun a ha => ⟨s.new (u a ha), fun j hj => (sl.there hj).2 (u a ha)⟩
    have lA : l ∉ A := fun z => (new l z).2 i lfp
    have ndi := sl.nd i
    rw [eA] at ndi
    have lB : l ∉ B := (List.nodup_cons.mp ndi).1
    refine ⟨l, vs, w, rfl, rfl, hl, Nat.lt_of_lt_of_eq (by rw [← rl.len]; exact hz) sizeLine_eq.symm, q F1 _ σ t1.ff ?_⟩
    refine s1.write sl1 (v := .ref l) (A' := l :: (B ++ A)) lfp ev ⟨l, vs ++ [w], B ++ A, rfl, (rl.upd lB).append (RpL.one (r1.upd lA)), (fun z => nomatch z), fun _ => ⟨rfl, fl, upd_same⟩⟩ ?_ fun a ha => ?_
    · refine List.nodup_cons.mpr ⟨fun z => (List.mem_append.mp z).elim lB lA, List.nodup_append.mpr ⟨(List.nodup_cons.mp ndi).2, nd, fun a ha b hb z => ?_⟩⟩
      subst z
      exact (new a hb).2 i (by rw [eA]; exact List.mem_cons_of_mem _ ha)
    · rcases List.mem_cons.mp ha with rfl | ha
      · exact .inl lfp
      · rcases List.mem_append.mp ha with ha | ha
        · exact .inl (by rw [eA]; exact List.mem_cons_of_mem _ ha)
        · exact .inr (new a ha)
  · rw [if_neg hz] at q
    exact q.elim
end
end Dv
end
section
set_option maxRecDepth 100000
set_option maxHeartbeats 1000000
namespace Dv
open PySem PySem.Spec PyProof.Rows L2
/-! ### facts for simp -/
@[simp] theorem isi_int_non  : isiD "int" .non = .ok (.bl false) := isiD_of (fun _ _ _ z => nomatch z) (by show kitB "NoneType" "int" = some false; decide +kernel)
@[simp] theorem isi_int_bl (b : Bool) : isiD "int" (.bl b) = .ok (.bl true) := isiD_of (fun _ _ _ z => nomatch z) (by show kitB "bool" "int" = some true; decide +kernel)
@[simp] theorem isi_int_int (i : Int) : isiD "int" (.int i) = .ok (.bl true) := isiD_of (fun _ _ _ z => nomatch z) (by show kitB "int" "int" = some true; decide +kernel)
@[simp] theorem isi_int_str (x : Str) : isiD "int" (.str x) = .ok (.bl false) := isiD_of (fun _ _ _ z => nomatch z) (by show kitB "str" "int" = some false; decide +kernel)
@[simp] theorem isi_int_tup (xs : List D) : isiD "int" (.tup xs) = .ok (.bl false) := isiD_of (fun _ _ _ z => nomatch z) (by show kitB "tuple" "int" = some false; decide +kernel)
@[simp] theorem isi_int_lst (o : Bool) (xs : List D) : isiD "int" (.lst o xs) = .ok (.bl false) := isiD_of (fun _ _ _ z => nomatch z) (by show kitB "list" "int" = some false; decide +kernel)
@[simp] theorem isi_bool_non  : isiD "bool" .non = .ok (.bl false) := isiD_of (fun _ _ _ z => nomatch z) (by show kitB "NoneType" "bool" = some false; decide +kernel)
@[simp] theorem isi_bool_bl (b : Bool) : isiD "bool" (.bl b) = .ok (.bl true) := isiD_of (fun _ _ _ z => nomatch z) (by show kitB "bool" "bool" = some true; decide +kernel)
@[simp] theorem isi_bool_int (i : Int) : isiD "bool" (.int i) = .ok (.bl false) := isiD_of (fun _ _ _ z => nomatch z) (by show kitB "int" "bool" = some false; decide +kernel)
@[simp] theorem isi_bool_str (x : Str) : isiD "bool" (.str x) = .ok (.bl false) := isiD_of (fun _ _ _ z => nomatch z) (by show kitB "str" "bool" = some false; decide +kernel)
@[simp] theorem isi_bool_tup (xs : List D) : isiD "bool" (.tup xs) = .ok (.bl false) := isiD_of (fun _ _ _ z => nomatch z) (by show kitB "tuple" "bool" = some false; decide +kernel)
@[simp] theorem isi_bool_lst (o : Bool) (xs : List D) : isiD "bool" (.lst o xs) = .ok (.bl false) := isiD_of (fun _ _ _ z => nomatch z) (by show kitB "list" "bool" = some false; decide +kernel)
@[simp] theorem isi_str_non  : isiD "str" .non = .ok (.bl false) := isiD_of (fun _ _ _ z => nomatch z) (by show kitB "NoneType" "str" = some false; decide +kernel)
@[simp] theorem isi_str_bl (b : Bool) : isiD "str" (.bl b) = .ok (.bl false) := isiD_of (fun _ _ _ z => nomatch z) (by show kitB "bool" "str" = some false; decide +kernel)
@[simp] theorem isi_str_int (i : Int) : isiD "str" (.int i) = .ok (.bl false) := isiD_of (fun _ _ _ z => nomatch z) (by show kitB "int" "str" = some false; decide +kernel)
@[simp] theorem isi_str_str (x : Str) : isiD "str" (.str x) = .ok (.bl true) := isiD_of (fun _ _ _ z => nomatch z) (by show kitB "str" "str" = some true; decide +kernel)
@[simp] theorem isi_str_tup (xs : List D) : isiD "str" (.tup xs) = .ok (.bl false) := isiD_of (fun _ _ _ z => nomatch z) (by show kitB "tuple" "str" = some false; decide +kernel)
@[simp] theorem isi_str_lst (o : Bool) (xs : List D) : isiD "str" (.lst o xs) = .ok (.bl false) := isiD_of (fun _ _ _ z => nomatch z) (by show kitB "list" "str" = some false; decide +kernel)
@[simp] theorem isi_tuple_non  : isiD "tuple" .non = .ok (.bl false) := isiD_of (fun _ _ _ z => nomatch z) (by show kitB "NoneType" "tuple" = some false; decide +kernel)
@[simp] theorem isi_tuple_bl (b : Bool) : isiD "tuple" (.bl b) = .ok (.bl false) := isiD_of (fun _ _ _ z => nomatch z) (by show kitB "bool" "tuple" = some false; decide +kernel)
@[simp] theorem isi_tuple_int (i : Int) : isiD "tuple" (.int i) = .ok (.bl false) := isiD_of (fun _ _ _ z => nomatch z) (by show kitB "int" "tuple" = some false; decide +kernel)
@[simp] theorem isi_tuple_str (x : Str) : isiD "tuple" (.str x) = .ok (.bl false) := isiD_of (fun _ _ _ z => nomatch z) (by show kitB "str" "tuple" = some false; decide +kernel)
@[simp] theorem isi_tuple_tup (xs : List D) : isiD "tuple" (.tup xs) = .ok (.bl true) := isiD_of (fun _ _ _ z => nomatch z) (by show kitB "tuple" "tuple" = some true; decide +kernel)
@[simp] theorem isi_tuple_lst (o : Bool) (xs : List D) : isiD "tuple" (.lst o xs) = .ok (.bl false) := isiD_of (fun _ _ _ z => nomatch z) (by show kitB "list" "tuple" = some false; decide +kernel)
@[simp] theorem isi_list_non  : isiD "list" .non = .ok (.bl false) := isiD_of (fun _ _ _ z => nomatch z) (by show kitB "NoneType" "list" = some false; decide +kernel)
@[simp] theorem isi_list_bl (b : Bool) : isiD "list" (.bl b) = .ok (.bl false) := isiD_of (fun _ _ _ z => nomatch z) (by show kitB "bool" "list" = some false; decide +kernel)
@[simp] theorem isi_list_int (i : Int) : isiD "list" (.int i) = .ok (.bl false) := isiD_of (fun _ _ _ z => nomatch z) (by show kitB "int" "list" = some false; decide +kernel)
@[simp] theorem isi_list_str (x : Str) : isiD "list" (.str x) = .ok (.bl false) := isiD_of (fun _ _ _ z => nomatch z) (by show kitB "str" "list" = some false; decide +kernel)
@[simp] theorem isi_list_tup (xs : List D) : isiD "list" (.tup xs) = .ok (.bl false) := isiD_of (fun _ _ _ z => nomatch z) (by show kitB "tuple" "list" = some false; decide +kernel)
@[simp] theorem isi_list_lst (o : Bool) (xs : List D) : isiD "list" (.lst o xs) = .ok (.bl true) := isiD_of (fun _ _ _ z => nomatch z) (by show kitB "list" "list" = some true; decide +kernel)
@[simp] theorem pure_non  : D.pure .non = true := rfl
@[simp] theorem cold_non  : D.cold .non = true := rfl
@[simp] theorem noFz_non  : D.noFz .non = true := rfl
@[simp] theorem frz_non  : D.frz .non = .non := rfl
@[simp] theorem lay_non (n : Nat)  : D.lay n .non = true := by cases n <;> rfl
@[simp] theorem pure_bl (b : Bool) : D.pure (.bl b) = true := rfl
@[simp] theorem cold_bl (b : Bool) : D.cold (.bl b) = true := rfl
@[simp] theorem noFz_bl (b : Bool) : D.noFz (.bl b) = true := rfl
@[simp] theorem frz_bl (b : Bool) : D.frz (.bl b) = (.bl b) := rfl
@[simp] theorem lay_bl (n : Nat) (b : Bool) : D.lay n (.bl b) = true := by cases n <;> rfl
@[simp] theorem pure_int (i : Int) : D.pure (.int i) = true := rfl
@[simp] theorem cold_int (i : Int) : D.cold (.int i) = true := rfl
@[simp] theorem noFz_int (i : Int) : D.noFz (.int i) = true := rfl
@[simp] theorem frz_int (i : Int) : D.frz (.int i) = (.int i) := rfl
@[simp] theorem lay_int (n : Nat) (i : Int) : D.lay n (.int i) = true := by cases n <;> rfl
@[simp] theorem pure_str (x : Str) : D.pure (.str x) = true := rfl
@[simp] theorem cold_str (x : Str) : D.cold (.str x) = true := rfl
@[simp] theorem noFz_str (x : Str) : D.noFz (.str x) = true := rfl
@[simp] theorem frz_str (x : Str) : D.frz (.str x) = (.str x) := rfl
@[simp] theorem lay_str (n : Nat) (x : Str) : D.lay n (.str x) = PyData.strOk x := by cases n <;> rfl
@[simp] theorem pure_tup (xs : List D) : D.pure (.tup xs) = D.pureL xs := rfl
@[simp] theorem pure_lst (o : Bool) (xs : List D) : D.pure (.lst o xs) = (!o && D.pureL xs) := rfl
@[simp] theorem pure_scr (xs : List D) : D.pure (.scr xs) = D.pureL xs := rfl
@[simp] theorem cold_tup (xs : List D) : D.cold (.tup xs) = D.coldL xs := rfl
@[simp] theorem cold_lst (o : Bool) (xs : List D) : D.cold (.lst o xs) = D.coldL xs := rfl
@[simp] theorem cold_scr (xs : List D) : D.cold (.scr xs) = D.coldL xs := rfl
@[simp] theorem frz_tup (xs : List D) : D.frz (.tup xs) = .tup (D.frzL xs) := rfl
@[simp] theorem frz_lst (o : Bool) (xs : List D) : D.frz (.lst o xs) = .lst false (D.frzL xs) := rfl
@[simp] theorem frz_scr (xs : List D) : D.frz (.scr xs) = .scr (D.frzL xs) := rfl
@[simp] theorem noFz_tup (xs : List D) : D.noFz (.tup xs) = D.noFzL xs := rfl
@[simp] theorem noFz_lst (o : Bool) (xs : List D) : D.noFz (.lst o xs) = (o && D.noFzL xs) := rfl
@[simp] theorem lay_tup (n : Nat) (xs : List D) : D.lay (n + 1) (.tup xs) = D.layL n xs := rfl
@[simp] theorem lay_lst (n : Nat) (o : Bool) (xs : List D) : D.lay (n + 1) (.lst o xs) = D.layL n xs := rfl
@[simp] theorem pureL_nil : D.pureL [] = true := rfl
@[simp] theorem pureL_cons (x : D) (xs : List D) : D.pureL (x :: xs) = (x.pure && D.pureL xs) := rfl
@[simp] theorem coldL_nil : D.coldL [] = true := rfl
@[simp] theorem coldL_cons (x : D) (xs : List D) : D.coldL (x :: xs) = (x.cold && D.coldL xs) := rfl
@[simp] theorem frzL_nil : D.frzL [] = [] := rfl
@[simp] theorem frzL_cons (x : D) (xs : List D) : D.frzL (x :: xs) = x.frz :: D.frzL xs := rfl
@[simp] theorem noFzL_nil : D.noFzL [] = true := rfl
@[simp] theorem noFzL_cons (x : D) (xs : List D) : D.noFzL (x :: xs) = (x.noFz && D.noFzL xs) := rfl
@[simp] theorem layL_nil (n : Nat) : D.layL n [] = true := rfl
@[simp] theorem layL_cons (n : Nat) (x : D) (xs : List D) : D.layL n (x :: xs) = (x.lay n && D.layL n xs) := rfl
@[simp] theorem asOwn_eq (f : Env → R D) (ρ : Env) : asOwn f ρ = (f ρ).bind fun d => if d.pure then .ok d else .no := rfl
/-! ints in a list -/
def dInts (ns : List Int) : List D := ns.map D.int
@[simp] theorem dInts_nil : dInts [] = [] := rfl
@[simp] theorem dInts_cons (n : Int) (ns : List Int) : dInts (n :: ns) = .int n :: dInts ns := rfl
@[simp] theorem dInts_len (ns : List Int) : (dInts ns).length = ns.length := List.length_map _
@[simp] theorem dInts_app (ns ms : List Int) : dInts ns ++ dInts ms = dInts (ns ++ ms) := (List.map_append ..).symm
@[simp] theorem dInts_app1 (ns : List Int) (m : Int) : dInts ns ++ [.int m] = dInts (ns ++ [m]) := dInts_app ns [m]
@[simp] theorem dInts_pure : ∀ ns : List Int, D.pureL (dInts ns) = true
  | [] => rfl
  | n :: ns => by rw [dInts_cons, pureL_cons, dInts_pure ns]; rfl
@[simp] theorem dInts_cold (ns : List Int) : D.coldL (dInts ns) = true := D.pureL_cold _ (dInts_pure ns)
@[simp] theorem dInts_frz (ns : List Int) : D.frzL (dInts ns) = dInts ns := D.pureL_frzL _ (dInts_pure ns)
@[simp] theorem dInts_noFz : ∀ ns : List Int, D.noFzL (dInts ns) = true
  | [] => rfl
  | n :: ns => by rw [dInts_cons, noFzL_cons, dInts_noFz ns]; rfl
@[simp] theorem dInts_lay (k : Nat) : ∀ ns : List Int, D.layL k (dInts ns) = true
  | [] => rfl
  | n :: ns => by rw [dInts_cons, layL_cons, dInts_lay k ns, lay_int]; rfl
@[simp] theorem dInts_get (ns : List Int) (i : Nat) : (dInts ns)[i]? = (ns[i]?).map D.int := List.getElem?_map ..
@[simp] theorem dInts_at (ns : List Int) (i : Nat) (h : i < (dInts ns).length) : (dInts ns)[i] = .int (ns[i]'(by rw [dInts_len] at h; exact h)) := List.getElem_map ..
theorem dInts_drop (ns : List Int) (i : Nat) : (dInts ns).drop i = dInts (ns.drop i) := (List.map_drop ..).symm
theorem dInts_take (ns : List Int) (i : Nat) : (dInts ns).take i = dInts (ns.take i) := (List.map_take ..).symm
@[simp] theorem dInts_cut (ns : List Int) (lo hi : Option Int) : cutD (dInts ns) lo hi = dInts (cutD ns lo hi) := by
  unfold cutD
  rw [dInts_len, dInts_drop, dInts_take]
@[simp] theorem dInts_isEmpty (ns : List Int) : (dInts ns).isEmpty = ns.isEmpty := by cases ns <;> rfl
theorem dInts_eqvAll : ∀ ns ms : List Int, PyData.eqvAll (D.toPL (dInts ns)) (D.toPL (dInts ms)) = (ns == ms)
  | [], [] => rfl
  | [], m :: ms => rfl
  | n :: ns, [] => rfl
  | n :: ns, m :: ms => by
    show (PyData.eqv (.int n) (.int m) && PyData.eqvAll (D.toPL (dInts ns)) (D.toPL (dInts ms))) = _
    rw [dInts_eqvAll ns ms]
    rfl
@[simp] theorem gEq_ints (o p : Bool) (ns ms : List Int) : gEq (.lst o (dInts ns)) (.lst p (dInts ms)) = some (.bl (ns == ms)) := by
  have h : ∀ (o : Bool) (ns : List Int), D.lay 60 (.lst o (dInts ns)) = true := fun o ns => dInts_lay 59 ns
  simp only [gEq, h, and_self, if_true]
  show some (D.bl (PyData.eqvAll (D.toPL (dInts ns)) (D.toPL (dInts ms)))) = _
  rw [dInts_eqvAll]
@[simp] theorem gNe_ints (o p : Bool) (ns ms : List Int) : gNe (.lst o (dInts ns)) (.lst p (dInts ms)) = some (.bl (!(ns == ms))) := by
  have h : ∀ (o : Bool) (ns : List Int), D.lay 60 (.lst o (dInts ns)) = true := fun o ns => dInts_lay 59 ns
  simp only [gNe, h, and_self, if_true]
  show some (D.bl (!(PyData.eqvAll (D.toPL (dInts ns)) (D.toPL (dInts ms))))) = _
  rw [dInts_eqvAll]
@[simp] theorem gEq_tints (ns ms : List Int) : gEq (.tup (dInts ns)) (.tup (dInts ms)) = some (.bl (ns == ms)) := by
  have h : ∀ (ns : List Int), D.lay 60 (.tup (dInts ns)) = true := fun ns => dInts_lay 59 ns
  simp only [gEq, h, and_self, if_true]
  show some (D.bl (PyData.eqvAll (D.toPL (dInts ns)) (D.toPL (dInts ms)))) = _
  rw [dInts_eqvAll]
/-- a loop by an invariant -/
theorem forL_inv {g : D → Env → Option Env} {b : Env → SR} (I : Nat → Env → Prop) : ∀ (ds : List D) (i : Nat) (ρ : Env),
    (∀ j d ρ, ds[j]? = some d → I (i + j) ρ → ∃ ρ1 ρ2, g d ρ = some ρ1 ∧ (b ρ1 = .nx ρ2 ∨ b ρ1 = .ct ρ2) ∧ I (i + j + 1) ρ2) → I i ρ → ∃ ρ', forL g b ds ρ = .nx ρ' ∧ I (i + ds.length) ρ'
  | [], i, ρ, _, h => ⟨ρ, rfl, h⟩
  | d :: ds, i, ρ, hs, h => by
    obtain ⟨ρ1, ρ2, e1, e2, h2⟩ := hs 0 d ρ rfl h
    obtain ⟨ρ', e3, h3⟩ := forL_inv I ds (i + 1) ρ2 (fun j d' ρ' e h' => by
      have := hs (j + 1) d' ρ' (by simpa using e) (by rw [show i + (j + 1) = i + 1 + j by omega]; exact h')
      rw [show i + (j + 1) + 1 = i + 1 + j + 1 by omega] at this
      exact this) h2
    refine ⟨ρ', ?_, by rw [List.length_cons, show i + (ds.length + 1) = i + 1 + ds.length by omega]; exact h3⟩
    rw [forL_cons, e1]
    rcases e2 with e2 | e2 <;> (simp only [e2]; exact e3)
/-- ifs carried out -/
theorem R.bind_ite {α β : Type} (c : Prop) [Decidable c] (a b : R α) (f : α → R β) : (if c then a else b).bind f = if c then a.bind f else b.bind f := by split <;> rfl
theorem R.st_ite {α : Type} (c : Prop) [Decidable c] (a b : R α) (ρ : Env) (f : α → SR) : (if c then a else b).st ρ f = if c then a.st ρ f else b.st ρ f := by split <;> rfl
theorem SR.at_ite (c : Prop) [Decidable c] (a b : SR) (f : Env → SR) : (if c then a else b).andThen f = if c then a.andThen f else b.andThen f := by split <;> rfl
theorem SR.out_ite (c : Prop) [Decidable c] (a b : SR) : (if c then a else b).out = if c then a.out else b.out := by split <;> rfl
end Dv
end
section
set_option maxRecDepth 100000
set_option maxHeartbeats 1000000
namespace Dv
open PySem PySem.Spec PyProof.Rows L2

/-! ### the built-ins' names -/
theorem bb_len : bootBuiltins "len" = some (.builtin "len") := by decide +kernel
theorem bb_abs : bootBuiltins "abs" = some (.builtin "abs") := by decide +kernel
theorem bb_max : bootBuiltins "max" = some (.builtin "max") := by decide +kernel
theorem bb_min : bootBuiltins "min" = some (.builtin "min") := by decide +kernel
theorem bb_ord : bootBuiltins "ord" = some (.builtin "ord") := by decide +kernel
theorem bb_sum : bootBuiltins "sum" = some (.builtin "sum") := by decide +kernel
theorem bb_sorted : bootBuiltins "sorted" = some (.builtin "sorted") := by decide +kernel
theorem bb_all : bootBuiltins "all" = some (.builtin "all") := by decide +kernel
theorem bb_any : bootBuiltins "any" = some (.builtin "any") := by decide +kernel
theorem bb_isinstance : bootBuiltins "isinstance" = some (.builtin "isinstance") := by decide +kernel
theorem bb_int : bootBuiltins "int" = some (.type "int") := by decide +kernel
theorem bb_bool : bootBuiltins "bool" = some (.type "bool") := by decide +kernel
theorem bb_str : bootBuiltins "str" = some (.type "str") := by decide +kernel
theorem bb_list : bootBuiltins "list" = some (.type "list") := by decide +kernel
theorem bb_tuple : bootBuiltins "tuple" = some (.type "tuple") := by decide +kernel

/-! ### the law's end -/
def spLaw (K : PySem.W.Frag) : Sp := fun vs H Q _ => ∃ (a : Addr) (ns : List Int), vs = [.ref a] ∧ SqL K H a (ns.map V.int) ∧ ns.length ≤ 63 ∧ ∀ H', Q (.bl true) H'
theorem rp_dInts {k : Kx} {F H : Hp} : ∀ ns : List Int, RpL k F H (dInts ns) (ns.map V.int) []
  | [] => ⟨rfl, rfl⟩
  | n :: ns => ⟨.int n, ns.map V.int, [], [], rfl, rfl, ⟨rfl, rfl⟩, rp_dInts ns⟩
theorem end_of {P : Program} {w : World} {K : PySem.W.Frag} {mg : Str → Option Value} {base : Heap} {kx : Kx} {ec : Nat → Value} {k : Nat} {f : Addr} {fd : FuncData} {ps : List Str} {g : List D → R D} (G : FnOk P w K mg base (L2.CX P w) k f fd ps (spD kx ec 1 g)) (hK : kx.K = K)
    (h : ∀ ns : List Int, ns.length ≤ 63 → g [.scr (dInts ns)] = .ok (.bl true)) : FnOk P w K mg base (L2.CX P w) k f fd ps (spLaw K) := by
  refine G.imp fun vs H Q Ew ⟨a, ns, e, s, hl, q⟩ => ?_
  subst e
  refine ⟨H, [.scr (dInts ns)], .refl _, ⟨.ref a, [], [], [], rfl, rfl, ⟨a, _, rfl, rfl, by rw [hK]; exact s, rp_dInts ns⟩, rfl, rfl⟩, ?_, rfl, ?_⟩
  · simp
  · rw [h ns hl]
    intro F' H' v A t r _ _
    rw [r.1]
    exact q H'
theorem callF_pure {n : Nat} {f : List D → R D} {ds : List D} (hl : ds.length = n) (hp : D.pureL ds = true) : callF n f ds = f ds := by
  unfold callF
  rw [if_pos hl, if_pos hp]
theorem cx_no {P : Program} {w : World} {outer : List PySem.Env} {H : Hp} {s : Shared} {e : Value} {s' : Shared} (h : L2.CX P w outer H s (fun _ _ _ => False) e s') : False := by
  obtain ⟨_, _, _, _, _, _, _, _, _, _, _, _, z⟩ := h
  exact z
end Dv
end
section
set_option maxRecDepth 100000
set_option maxHeartbeats 1000000
namespace Dv
open PySem PySem.Spec PyProof.Rows L2

/-! ### comprehensions -/
def wipeE (ρ : Env) : List Nat → Env
  | [] => ρ
  | v :: vs => (wipeE ρ vs).set v none
@[simp] theorem wipeE_nil (ρ : Env) : wipeE ρ [] = ρ := rfl
@[simp] theorem wipeE_cons (ρ : Env) (v : Nat) (vs : List Nat) : wipeE ρ (v :: vs) = (wipeE ρ vs).set v none := rfl
theorem wipe_ext {σ σ' : L2.St} (hl : σ.length = σ'.length) : ∀ {vs : List Nat}, (∀ j, j ∉ vs → σ[j]? = σ'[j]?) → wipe σ vs = wipe σ' vs := fun {vs} h => by
  refine List.ext_getElem? fun j => ?_
  by_cases hj : j ∈ vs
  · have go : ∀ (τ : L2.St) (vs : List Nat), j ∈ vs → j < τ.length → (wipe τ vs)[j]? = some none := fun τ vs => by
      induction vs with
      | nil => intro h; cases h
      | cons v vs ih =>
        intro h hlt
        show ((wipe τ vs).set v none)[j]? = some none
        by_cases q : v = j
        · rw [q, List.getElem?_set_self (by rw [wipe_length]; exact hlt)]
        · rw [List.getElem?_set_ne q]
          exact ih ((List.mem_cons.mp h).resolve_left fun z => q z.symm) hlt
    by_cases hlt : j < σ.length
    · rw [go σ vs hj hlt, go σ' vs hj (by omega)]
    · rw [List.getElem?_eq_none (by rw [wipe_length]; omega), List.getElem?_eq_none (by rw [wipe_length]; omega)]
  · rw [wipe_out hj, wipe_out hj, h j hj]
theorem wipe_set {σ : L2.St} {i : Nat} {x : Option V} {vs : List Nat} (h : i ∈ vs) : wipe (σ.set i x) vs = wipe σ vs :=
  wipe_ext (by rw [List.length_set]) fun j hj => List.getElem?_set_ne fun z => hj (by rw [← z]; exact h)
theorem wipe_wipe {σ : L2.St} {vs : List Nat} : wipe (wipe σ vs) vs = wipe σ vs := wipe_ext (by rw [wipe_length]) fun j hj => wipe_out hj
section
variable {E : En}
theorem Stt.unset {F H : Hp} {σ : L2.St} {ρ : Env} {i : Nat} (s : Stt E F H σ ρ) (hb : i ∉ E.bs) : Stt E F H (σ.set i none) (ρ.set i none) := by
  obtain ⟨fp, sl⟩ := s.sl
  refine ⟨s.e0, s.fh, s.fr, s.st, s.bt, by rw [List.length_set, List.length_set]; exact s.len, fun j hj => ?_, fun j => if j = i then [] else fp j, fun j d' e => ?_, fun j e => ?_, fun j => ?_, fun j j' a ha ha' => ?_, fun j a ha => ?_⟩
  · rw [List.getElem?_set_ne (fun z => hb (by rw [z]; exact hj))]
    exact s.bv j hj
  · by_cases q : j = i
    · subst q
      by_cases hi : j < ρ.length
      · rw [List.getElem?_set_self hi] at e; cases e
      · rw [List.getElem?_eq_none (by rw [List.length_set]; omega)] at e; cases e
    · rw [List.getElem?_set_ne (Ne.symm q)] at e
      obtain ⟨v', e', r'⟩ := sl.rp j d' e
      refine ⟨v', by rw [List.getElem?_set_ne (Ne.symm q)]; exact e', ?_⟩
      show Rp E.k F H d' v' (if j = i then [] else fp j)
      rw [if_neg q]
      exact r'
  · show (if j = i then [] else fp j) = []
    by_cases q : j = i
    · rw [if_pos q]
    · rw [List.getElem?_set_ne (Ne.symm q)] at e
      rw [if_neg q]
      exact sl.em j e
  · show (if j = i then [] else fp j).Nodup
    by_cases q : j = i
    · rw [if_pos q]; exact .nil
    · rw [if_neg q]; exact sl.nd j
  · have ha : a ∈ (if j = i then [] else fp j) := ha
    have ha' : a ∈ (if j' = i then [] else fp j') := ha'
    by_cases q : j = i
    · rw [if_pos q] at ha; cases ha
    · rw [if_neg q] at ha
      by_cases q' : j' = i
      · rw [if_pos q'] at ha'; cases ha'
      · rw [if_neg q'] at ha'
        exact sl.dj j j' a ha ha'
  · have ha : a ∈ (if j = i then [] else fp j) := ha
    by_cases q : j = i
    · rw [if_pos q] at ha; cases ha
    · rw [if_neg q] at ha
      exact sl.nw j a ha
theorem Stt.wipe {F H : Hp} {σ : L2.St} {ρ : Env} (s : Stt E F H σ ρ) : ∀ {vs : List Nat}, (∀ v ∈ vs, v ∉ E.bs) → Stt E F H (L2.wipe σ vs) (wipeE ρ vs)
  | [], _ => s
  | v :: vs, h => (Stt.wipe s fun v hv => h v (List.mem_cons_of_mem _ hv)).unset (h v List.mem_cons_self)
end
/-! targets of a block: only its own names are touched -/
def tGw (E : En) (g : D → Env → Option Env) (vs : List Nat) : TG := fun v σ H Q => ∃ F ρ d, Stt E F H σ ρ ∧ d.pure = true ∧ Rp E.k F H d v [] ∧ ∃ ρ', g d ρ = some ρ' ∧ ∀ σ', Stt E F H σ' ρ' → L2.wipe σ' vs = L2.wipe σ vs → Q σ' H
def tGsw (E : En) (g : List D → Env → Option Env) (vs : List Nat) : TGs := fun ws σ H Q => ∃ F ρ ds, Stt E F H σ ρ ∧ D.pureL ds = true ∧ RpL E.k F H ds ws [] ∧ ∃ ρ', g ds ρ = some ρ' ∧ ∀ σ', Stt E F H σ' ρ' → L2.wipe σ' vs = L2.wipe σ vs → Q σ' H
structure EGw (X : Cx) (E : En) (vs : List Nat) (e : Expr) (g : D → Env → Option Env) : Prop where
  pg : PG X e (tGw E g vs)
structure EGsw (X : Cx) (E : En) (vs : List Nat) (es : List Expr) (g : List D → Env → Option Env) : Prop where
  pg : PGs X es (tGsw E g vs)
section
variable {X : Cx} {E : En} {W : WX} {vs : List Nat}
theorem egw_name {i : Nat} {x : Str} {pos : Pos} (hv : i ∈ vs) (hN : X.N.Nodup) (hi : X.N[i]? = some x) (hx : Loc X.env.scope x) (hb : i ∉ E.bs) (hf : X.fn x = true ∨ X.env.scope.names.lookup x = some .local := by first | exact .inl rfl | exact .inr rfl | assumption) : EGw X E vs (.Name x pos) (gNm i) := by
  refine ⟨pg_mono (pg_name hN hi hx hf) fun v σ H Q h => ?_⟩
  obtain ⟨F, ρ, d, s, p, r, ρ', e, q⟩ := h
  cases e
  exact q _ (s.set (Tr.refl s.fh) r .nil (fun _ z => nomatch z) hb) (wipe_set hv)
theorem egsw_nil : EGsw X E vs [] gsNil := by
  refine ⟨pgs_mono pgs_nil fun vs σ H Q h => ?_⟩
  obtain ⟨F, ρ, ds, s, p, r, ρ', e, q⟩ := h
  cases ds with
  | nil => cases e; exact ⟨r.1, q σ s rfl⟩
  | cons d ds => cases e
theorem egsw_cons {e : Expr} {es : List Expr} {g : D → Env → Option Env} {gs : List D → Env → Option Env} (h1 : EGw X E vs e g) (h2 : EGsw X E vs es gs)
    (hs : (assignEach (e :: es) X.env).map (·.2) = assign e X.env :: (assignEach es X.env).map (·.2) := by rfl) : EGsw X E vs (e :: es) (gsCons g gs) := by
  refine ⟨pgs_mono (pgs_cons h1.pg h2.pg hs) fun ws σ H Q h => ?_⟩
  obtain ⟨F, ρ, ds, s, p, r, ρ', e, q⟩ := h
  cases ds with
  | nil => cases e
  | cons d ds =>
    obtain ⟨v, ws, B, C, e1, e2, r1, r2⟩ := r
    obtain ⟨rfl, rfl⟩ := List.append_eq_nil_iff.mp e2.symm
    have p' : d.pure = true ∧ D.pureL ds = true := by simpa [D.pureL] using p
    rw [gsCons_cons] at e
    cases eg : g d ρ with
    | none => rw [eg] at e; cases e
    | some ρ1 =>
      rw [eg] at e
      exact ⟨v, ws, e1, F, ρ, d, s, p'.1, r1, ρ1, eg, fun σ' s' w' => ⟨F, ρ1, ds, s', p'.2, r2, ρ', e, fun σ2 s2 w2 => q σ2 s2 (w2.trans w')⟩⟩
theorem egw_tup {es : List Expr} {k : Nat} {gs : List D → Env → Option Env} {pos : Pos} (hK : E.k.K = X.K) (hc : X.calm = true) (h : EGsw X E vs es gs) (n : Nat) (hlen : ∀ ds ρ ρ', gs ds ρ = some ρ' → ds.length = n)
    (hn : (assignEach es X.env).length = n := by rfl) (hst : (assignEach es X.env).findIdx? (·.1) = none := by rfl) : EGw X E vs (.Tuple es k pos) (gTp gs) := by
  refine ⟨pg_mono (pg_tup hc h.pg hn hst) fun v σ H Q h => ?_⟩
  obtain ⟨F, ρ, d, s, p, r, ρ', e, q⟩ := h
  cases d with
  | tup ds =>
    obtain ⟨a, vs, rfl, s1, r⟩ := r
    exact ⟨a, vs, rfl, by rw [← hK]; exact ex_t s.fh s1, by rw [← r.len]; exact hlen ds ρ ρ' e, F, ρ, ds, s, p, r, ρ', e, q⟩
  | _ => cases e
end
/-! tests of a clause -/
structure ETs (X : Cx) (E : En) (W : WX) (ifs : List Expr) (f : Env → R Bool) : Prop where
  pt : PTs X ifs (tT E W f)
def tYes : Env → R Bool := fun _ => .ok true
@[simp] theorem tYes_eq (ρ : Env) : tYes ρ = .ok true := rfl
section
variable {X : Cx} {E : En} {W : WX}
theorem pts_mono {es : List Expr} {t t' : TT} (h : PTs X es t) (i : ∀ σ H Q, t' σ H Q → t σ H Q) : PTs X es t' := ⟨fun pins s σ H Q I q => h.run pins s σ H Q I (i σ H Q q)⟩
theorem ets_nil : ETs X E W [] tYes := ⟨pts_mono pts_nil fun σ H Q ⟨F, ρ, s, q⟩ => q F H (Tr.refl s.fh)⟩
theorem ets_one {e : Expr} {f : Env → R Bool} (h : ET X E W e f) : ETs X E W [e] f := ⟨pts_one h.pt⟩
/-- exceptions are not let out of a block -/
def R.calm {α : Type} : R α → R α
  | .ok a => .ok a
  | _ => .no
@[simp] theorem R.calm_ok {α : Type} (a : α) : (R.ok a).calm = .ok a := rfl
@[simp] theorem R.calm_no {α : Type} : (R.no : R α).calm = .no := rfl
theorem R.calm_of {α β : Type} {r : R α} {f : α → R β} {P : β → Prop} {Ew : Nat → Prop} (h : Res (r.calm.bind f) P Ew) : ∃ a, r = .ok a ∧ Res (f a) P Ew := by
  cases r with
  | no => exact h.elim
  | ok a => exact ⟨a, rfl, h⟩
  | ex c => exact h.elim
def lcL (g : D → Env → Option Env) (t : Env → R Bool) (f : Env → R D) (ρ : Env) : List D → List D → R D
  | [], acc => .ok (.lst true acc)
  | d :: ds, acc => match g d ρ with
    | none => .no
    | some ρ1 => (t ρ1).calm.bind fun b => if b = true then (f ρ1).calm.bind fun y => if acc.length < 16777216 then lcL g t f ρ ds (acc ++ [y]) else .no else lcL g t f ρ ds acc
theorem lcL_nil (g : D → Env → Option Env) (t : Env → R Bool) (f : Env → R D) (ρ : Env) (acc : List D) : lcL g t f ρ [] acc = .ok (.lst true acc) := rfl
theorem lcL_cons (g : D → Env → Option Env) (t : Env → R Bool) (f : Env → R D) (ρ : Env) (d : D) (ds acc : List D) : lcL g t f ρ (d :: ds) acc = match g d ρ with
    | none => .no
    | some ρ1 => (t ρ1).calm.bind fun b => if b = true then (f ρ1).calm.bind fun y => if acc.length < 16777216 then lcL g t f ρ ds (acc ++ [y]) else .no else lcL g t f ρ ds acc := rfl
def eLc (it : Env → R (List D)) (g : D → Env → Option Env) (t : Env → R Bool) (f : Env → R D) (vs : List Nat) : Env → R D := fun ρ => (it ρ).bind fun ds => lcL g t f (wipeE ρ vs) ds []
@[simp] theorem eLc_eq (it : Env → R (List D)) (g : D → Env → Option Env) (t : Env → R Bool) (f : Env → R D) (vs : List Nat) (ρ : Env) : eLc it g t f vs ρ = (it ρ).bind fun ds => lcL g t f (wipeE ρ vs) ds [] := rfl
abbrev WN : WX := fun _ _ _ _ => False
theorem takes_no {X : Cx} : Takes X WN := fun u s' ⟨a, B, sI, pins, σ, H, cls, d, e, I, nb, up, sky, na, os, ag, w⟩ => w.elim
/-- a list under way: it is new, what it owns is new -/
structure Acc (k : Kx) (F1 H1 F H : Hp) (D0 : Addr) (acc : List D) : Prop where
  tr : Tr F1 H1 F H
  rp : ∃ vs A, H D0 = some (.lst vs) ∧ F D0 = none ∧ RpL k F H acc vs A ∧ (D0 :: A).Nodup ∧ ∀ a ∈ D0 :: A, H1 a = none
theorem Acc.start {k : Kx} {F H : Hp} {p : Addr} (fh : Ex F H) (h : H p = none) : Acc k F H F (upd H p (.lst [])) p [] := by
  have hf : F p = none := by
    cases q : F p with
    | none => rfl
    | some u => rw [fh p u q] at h; cases h
  exact ⟨tr_new fh h, [], [], upd_same, hf, ⟨rfl, rfl⟩, by simp, fun a ha => by rw [List.mem_singleton.mp ha]; exact h⟩
theorem Acc.next {k : Kx} {F1 H1 F H F' H' : Hp} {p : Addr} {acc : List D} (a : Acc k F1 H1 F H p acc) (t : Tr F H F' H') : Acc k F1 H1 F' H' p acc := by
  obtain ⟨vs, A, h1, h2, h3, h4, h5⟩ := a.rp
  exact ⟨a.tr.trans t, vs, A, t.hh _ _ h1, t.no _ h2 (by rw [h1]; exact fun z => nomatch z), h3.tr t, h4, h5⟩
theorem Acc.add {k : Kx} {F1 H1 F H F' H' : Hp} {p : Addr} {acc : List D} {d : D} {v : V} {A : List Addr} (a : Acc k F1 H1 F H p acc) (t : Tr F H F' H') (r : Rp k F' H' d v A) (nd : A.Nodup) (u : ∀ x ∈ A, H x = none) :
    ∃ vs, H' p = some (.lst vs) ∧ vs.length = acc.length ∧ Acc k F1 H1 F' (upd H' p (.lst (vs ++ [v]))) p (acc ++ [d]) := by
  obtain ⟨vs, B, g1, g2, g3, h4, h5⟩ := a.rp
  have pH : H p ≠ none := by rw [g1]; exact fun z => nomatch z
  have h1 := t.hh _ _ g1
  have h2 := t.no _ g2 pH
  have h3 := g3.tr t
  have pA : p ∉ A := fun z => pH (u p z)
  have pB : p ∉ B := (List.nodup_cons.mp h4).1
  have up : ∀ x, H1 x ≠ none → H x ≠ none := fun x hx => by
    cases q : H1 x with
    | none => exact absurd q hx
    | some o => rw [a.tr.hh x o q]; exact fun z => nomatch z
  have A1 : ∀ x ∈ A, H1 x = none := fun x hx => Classical.byContradiction fun z => up x z (u x hx)
  refine ⟨vs, h1, h3.len.symm, ⟨(a.next t).tr.ff, fun x o e => ?_, fun x o e => ?_, (a.next t).tr.no⟩, vs ++ [v], B ++ A, upd_same, h2, (h3.upd pB).append (RpL.one (r.upd pA)), ?_, fun x hx => ?_⟩
  · rw [upd_ne fun z => by rw [z, h5 p List.mem_cons_self] at e; cases e]
    exact (a.next t).tr.hh x o e
  · rw [upd_ne fun z => by rw [z, h2] at e; cases e]
    exact (a.next t).tr.fh x o e
  · refine List.nodup_cons.mpr ⟨fun z => (List.mem_append.mp z).elim pB pA, List.nodup_append.mpr ⟨(List.nodup_cons.mp h4).2, nd, fun x hx y hy z => ?_⟩⟩
    subst z
    obtain ⟨_, o, h6, _⟩ := RpL.dom _ _ _ g3 x hx
    rw [u x hy] at h6; cases h6
  · rcases List.mem_cons.mp hx with rfl | hx
    · exact h5 _ List.mem_cons_self
    · rcases List.mem_append.mp hx with hx | hx
      · exact h5 x (List.mem_cons_of_mem _ hx)
      · exact A1 x hx
/-- the block's context -/
theorem lc_imp {it : Env → R (List D)} {g : D → Env → Option Env} {t : Env → R Bool} {f : Env → R D} {vs : List Nat} (hb : ∀ v ∈ vs, v ∉ E.bs) {F H : Hp} {σ : L2.St} {ρ : Env} {Q : VK} (s : Stt E F H σ ρ)
    (q : Res (eLc it g t f vs ρ) (fun d => ∀ F' H' v A, Tr F H F' H' → Rp E.k F' H' d v A → A.Nodup → (∀ a ∈ A, H a = none) → Q v H') (fun c => ∀ F' H', Tr F H F' H' → W (E.ec c) none σ H')) :
    tLc (tI E W it) (tGw E g vs) (tT E WN t) (tO E WN f) vs σ H Q := by
  refine ⟨F, ρ, s, Res.mono q.bind (fun ds _ q F1 H1 J t1 wk p hp => ?_) fun c _ z F' H' t => z F' H' t⟩
  have s1 := s.tr t1
  refine ⟨fun i m H' => ∃ F' acc, Acc E.k F1 H1 F' H' p acc ∧ i ≤ ds.length ∧ m = ds.length - i ∧ Res (lcL g t f (wipeE ρ vs) (ds.drop i) acc) (fun d => ∀ F' H' v A, Tr F H F' H' → Rp E.k F' H' d v A → A.Nodup → (∀ a ∈ A, H a = none) → Q v H') (fun c => ∀ F' H', Tr F H F' H' → W (E.ec c) none σ H'), ⟨_, F1, [], Acc.start t1.fh hp, Nat.zero_le _, rfl, q⟩, ?_⟩
  rintro i m H' ⟨F', acc, ac, hi, rfl, q'⟩
  have fh' := ac.tr.fh
  by_cases hlt : i < ds.length
  · have ed : ds.drop i = ds[i] :: ds.drop (i + 1) := List.drop_eq_getElem_cons hlt
    rw [ed, lcL_cons] at q'
    refine .inr ⟨wk.go i hlt F' H' ac.tr.ff fh', fun H2 => ∃ F2 acc2, Acc E.k F1 H1 F2 H2 p acc2 ∧ Res (lcL g t f (wipeE ρ vs) (ds.drop (i + 1)) acc2) (fun d => ∀ F' H' v A, Tr F H F' H' → Rp E.k F' H' d v A → A.Nodup → (∀ a ∈ A, H a = none) → Q v H') (fun c => ∀ F' H', Tr F H F' H' → W (E.ec c) none σ H'), ?_, fun v H2 y => ?_⟩
    · rintro H2 ⟨F2, acc2, a2, q2⟩
      exact ⟨_, by omega, F2, acc2, a2, hlt, rfl, q2⟩
    · obtain ⟨pd, F2, t2, r2⟩ := wk.yld i ds[i] (List.getElem?_eq_getElem hlt) F' H' v H2 ac.tr.ff fh' y
      cases eg : g ds[i] (wipeE ρ vs) with
      | none => rw [eg] at q'; exact q'.elim
      | some ρ1 =>
        rw [eg] at q'
        have a2 := ac.next t2
        refine ⟨F2, wipeE ρ vs, ds[i], (s1.tr a2.tr).wipe hb, pd, r2, ρ1, eg, fun σ3 s3 w3 => ⟨w3.trans wipe_wipe, ?_⟩⟩
        obtain ⟨b, eb, q'⟩ := R.calm_of q'
        refine ⟨F2, ρ1, s3, ?_⟩
        rw [eb]
        show ∀ F' H', Tr F2 H2 F' H' → _
        intro F3 H3 t3
        have a3 := a2.next t3
        cases b with
        | false => exact ⟨F3, acc, a3, q'⟩
        | true =>
          obtain ⟨y, ey, q'⟩ := R.calm_of q'
          rw [if_pos rfl]
          refine ⟨F3, ρ1, s3.tr t3, ?_⟩
          rw [ey]
          show ∀ F' H' v A, Tr F3 H3 F' H' → _
          intro F4 H4 v4 A4 t4 r4 nd4 u4
          obtain ⟨ws, e1, e2, a4⟩ := a3.add t4 r4 nd4 u4
          by_cases hz : acc.length < 16777216
          · rw [if_pos hz] at q'
            exact ⟨ws, e1, Nat.lt_of_lt_of_eq (by rw [e2]; exact hz) sizeLine_eq.symm, F4, _, a4, q'⟩
          · rw [if_neg hz] at q'; exact q'.elim
  · have e : i = ds.length := by omega
    subst e
    rw [List.drop_length, lcL_nil] at q'
    obtain ⟨ws, A, h1, h2, h3, h4, h5⟩ := ac.rp
    refine .inl ⟨wk.stop F' H' ac.tr.ff fh', q' F' H' (.ref p) (p :: A) (t1.trans ac.tr) ⟨p, ws, A, rfl, h3, (fun z => nomatch z), fun _ => ⟨rfl, h2, h1⟩⟩ h4 fun a ha => none_back t1.hh (h5 a ha)⟩
theorem eo_lc {elt tg iter : Expr} {ifs : List Expr} {scope : Scope} {own : List (Str × Nat)} {pos : Pos} {it : Env → R (List D)} {g : D → Env → Option Env} {t : Env → R Bool} {f : Env → R D} (hc : X.calm = true) (hN : X.N.Nodup) (hi : EI X E W tg iter it) (ok : blkC X.N X.env.scope scope own = true)
    (hg : ∀ (s : Shared) (H : Hp) (C : Addr) (cl : List (Str × Addr)) (fp : List Addr), EGw (X.blk s H scope (compEnvC scope cl C X.env) fp) E (own.map (·.2)) tg g) (ht : ∀ (s : Shared) (H : Hp) (C : Addr) (cl : List (Str × Addr)) (fp : List Addr) (tk : Takes (X.blk s H scope (compEnvC scope cl C X.env) fp) WN), ETs (X.blk s H scope (compEnvC scope cl C X.env) fp) E WN ifs t)
    (he : ∀ (s : Shared) (H : Hp) (C : Addr) (cl : List (Str × Addr)) (fp : List Addr) (tk : Takes (X.blk s H scope (compEnvC scope cl C X.env) fp) WN), EO (X.blk s H scope (compEnvC scope cl C X.env) fp) E WN elt f) (hb : ∀ v ∈ own.map (·.2), v ∉ E.bs) (hs : ∀ x, foldedSetIterable iter X.env x = pure x := by intro _; rfl) :
    EO X E W (.ListComp elt [⟨tg, iter, ifs, 0⟩] scope pos) (eLc it g t f (own.map (·.2))) :=
  ⟨pe_mono (pe_lc hc hN hi.pi (blkOk_by ok) (fun s H C cl fp => (hg s H C cl fp).pg) (fun s H C cl fp => (ht s H C cl fp takes_no).pt) (fun s H C cl fp => (he s H C cl fp takes_no).pe) hs) fun σ H Q ⟨F, ρ, s, q⟩ => lc_imp hb s q⟩
theorem ss_setLc {i : Nat} {y : Str} {py : Pos} {elt tg iter : Expr} {ifs : List Expr} {scope : Scope} {own : List (Str × Nat)} {pos spos : Pos} {it : Env → R (List D)} {g : D → Env → Option Env} {t : Env → R Bool} {f : Env → R D} (hc : X.calm = true) (hN : X.N.Nodup) (hy : X.N[i]? = some y) (hyl : X.env.scope.names.lookup y = some .local) (hyb : i ∉ E.bs)
    (hk : X.env.scope.kind = .function) (hl : (py.line == pos.line) = true) (hsp : (pos.line == spos.line) = true) (ha : (scope.names.any fun (n, k) => n == y && (k == .local || k == .cell)) = false)
    (hi : EI X E W tg iter it) (ok : blkC X.N X.env.scope scope own = true)
    (hg : ∀ (s : Shared) (H : Hp) (C : Addr) (cl : List (Str × Addr)) (fp : List Addr), EGw (X.blk s H scope (compEnvC scope cl C X.env) fp) E (own.map (·.2)) tg g) (ht : ∀ (s : Shared) (H : Hp) (C : Addr) (cl : List (Str × Addr)) (fp : List Addr) (tk : Takes (X.blk s H scope (compEnvC scope cl C X.env) fp) WN), ETs (X.blk s H scope (compEnvC scope cl C X.env) fp) E WN ifs t)
    (he : ∀ (s : Shared) (H : Hp) (C : Addr) (cl : List (Str × Addr)) (fp : List Addr) (tk : Takes (X.blk s H scope (compEnvC scope cl C X.env) fp) WN), EO (X.blk s H scope (compEnvC scope cl C X.env) fp) E WN elt f) (hb : ∀ v ∈ own.map (·.2), v ∉ E.bs) (hs : ∀ x, foldedSetIterable iter X.env x = pure x := by intro _; rfl) :
    SS X E W (.Assign [.Name y py] (.ListComp elt [⟨tg, iter, ifs, 0⟩] scope pos) spos) (sAsg i (eLc it g t f (own.map (·.2)))) := by
  have hsw : swapsWith (.ListComp elt [⟨tg, iter, ifs, 0⟩] scope pos) (some (.Name y py)) spos.line X.env = pure true := by
    rw [← beq_iff_eq.mp hsp]
    exact sw_true hk hyl hl ha
  refine ⟨ps_mono (ps_setLc hc hN hy hyl hsw hi.pi (blkOk_by ok) (fun s H C cl fp => (hg s H C cl fp).pg) (fun s H C cl fp => (ht s H C cl fp takes_no).pt) (fun s H C cl fp => (he s H C cl fp takes_no).pe) hs) fun Z σ H h => ?_⟩
  obtain ⟨F, ρ, s, q⟩ := h
  refine lc_imp hb s (Res.mono q.st (fun d _ q F1 H1 v A t1 r1 nd u => ?_) fun c _ z => SRes.exc s z)
  exact q F1 H1 _ t1.ff (s.set t1 r1 nd u hyb)
end
end Dv
end
section
set_option maxRecDepth 100000
set_option maxHeartbeats 1000000
namespace Dv
open PySem PySem.Spec PyProof.Rows L2

section
variable {X : Cx} {E : En} {W : WX}
/-! ### lists that change, once more -/
theorem Sl.tr {F H F' H' : Hp} {σ : L2.St} {ρ : Env} {fp : Nat → List Addr} (sl : Sl E F H σ ρ fp) (t : Tr F H F' H') : Sl E F' H' σ ρ fp :=
  ⟨fun j d e => let ⟨v, ev, r⟩ := sl.rp j d e; ⟨v, ev, r.tr t⟩, sl.em, sl.nd, sl.dj, sl.nw⟩
/-- the list in a slot may get other items: what it owned, or what is new -/
theorem Stt.lst {F H : Hp} {σ : L2.St} {ρ : Env} {fp : Nat → List Addr} {i : Nat} {xs : List D} (s : Stt E F H σ ρ) (sl : Sl E F H σ ρ fp) (e : ρ[i]? = some (some (.lst true xs))) :
    ∃ l vs B, σ[i]? = some (some (.ref l)) ∧ H l = some (.lst vs) ∧ RpL E.k F H xs vs B ∧ (∀ a ∈ B, a ∈ fp i) ∧ B.Nodup ∧
      ∀ xs' vs' C, RpL E.k F H xs' vs' C → C.Nodup → (∀ a ∈ C, a ∈ B ∨ (E.He a = none ∧ ∀ j, a ∉ fp j)) → Stt E F (upd H l (.lst vs')) σ (ρ.set i (some (.lst true xs'))) := by
  obtain ⟨v, ev, r⟩ := sl.rp i _ e
  obtain ⟨l, vs, B, rfl, eA, fl, hl, rl⟩ := lstO r
  have lfp : l ∈ fp i := by rw [eA]; exact List.mem_cons_self
  have Bfp : ∀ a ∈ B, a ∈ fp i := fun a ha => by rw [eA]; exact List.mem_cons_of_mem _ ha
  have ndi := sl.nd i
  rw [eA] at ndi
  have lB : l ∉ B := (List.nodup_cons.mp ndi).1
  refine ⟨l, vs, B, ev, hl, rl, Bfp, (List.nodup_cons.mp ndi).2, fun xs' vs' C rC nC uC => ?_⟩
  have lC : l ∉ C := fun z => (uC l z).elim lB fun h => h.2 i lfp
  refine s.write sl (v := .ref l) (A' := l :: C) lfp ev ⟨l, vs', C, rfl, rC.upd lC, (fun z => nomatch z), fun _ => ⟨rfl, fl, upd_same⟩⟩ (List.nodup_cons.mpr ⟨lC, nC⟩) fun a ha => ?_
  rcases List.mem_cons.mp ha with rfl | ha
  · exact .inl lfp
  · exact (uC a ha).imp_left fun h => Bfp a h
/-- what is new stands in no slot -/
theorem Stt.fresh {F H : Hp} {σ : L2.St} {ρ : Env} {fp : Nat → List Addr} (s : Stt E F H σ ρ) (sl : Sl E F H σ ρ fp) {a : Addr} (u : H a = none) : E.He a = none ∧ ∀ j, a ∉ fp j :=
  ⟨s.new u, fun j hj => (sl.there hj).2 u⟩
def ixK (n : Nat) (i : Int) : Option Nat := L2.ixN n i
/-- name[i] = e -/
def sSet (i : Nat) (fi f : Env → R D) : Env → SR := fun ρ => (f ρ).st ρ fun d => onL i ρ fun xs => (fi ρ).st ρ fun j => match j with
  | .int j => match L2.ixN xs.length j with
    | some k => .nx (ρ.set i (some (.lst true (xs.set k d))))
    | none => .no
  | _ => .no
@[simp] theorem sSet_eq (i : Nat) (fi f : Env → R D) (ρ : Env) : sSet i fi f ρ = (f ρ).st ρ fun d => onL i ρ fun xs => (fi ρ).st ρ fun j => match j with
  | .int j => match L2.ixN xs.length j with
    | some k => .nx (ρ.set i (some (.lst true (xs.set k d))))
    | none => .no
  | _ => .no := rfl
theorem ss_setL {i : Nat} {o ix e : Expr} {fi f : Env → R D} {sp pos : Pos} (ho : PE X o (tVar i)) (h : EO X E W e f) (hx : EV X E W ix fi)
    (ha : ∀ v, assign (.Subscript o ix sp) X.env v = (do
      let ov ← holding [v] (eval o X.env)
      let iv ← holding [v, ov] (eval ix X.env)
      standAt sp
      holding [v, ov, iv] (setItem ov iv v)
      release [v, ov, iv] []) := by intro _; rfl)
    (hs : swapsWithSole [.Subscript o ix sp] e pos.line X.env = pure false := by rfl) (hw : swappedStores [.Subscript o ix sp] e X.env = pure none := by rfl)
    (h1 : (assignEach [.Subscript o ix sp] X.env).map (·.2) = [assign (.Subscript o ix sp) X.env] := by rfl) :
    SS X E W (.Assign [.Subscript o ix sp] e pos) (sSet i fi f) := by
  refine ⟨ps_mono (ps_asg h.pe (pg_sub ho hx.pe set_list ha) hs hw h1) fun Z σ H h => ?_⟩
  obtain ⟨F, ρ, s, q⟩ := h
  refine ⟨F, ρ, s, Res.mono q.st (fun d _ q F1 H1 w A t1 r1 nd u => ?_) fun c _ z => SRes.exc s z⟩
  obtain ⟨xs, e, q⟩ := onL_of q
  obtain ⟨fp, sl⟩ := s.sl
  obtain ⟨v, ev, r⟩ := sl.rp i _ e
  refine ⟨v, ev, F1, ρ, s.tr t1, Res.mono q.st (fun j _ q F2 H2 jv B t2 r2 => ?_) fun c _ z F' H' t => SRes.exc s z F' H' (t1.trans t)⟩
  cases j with
  | int j =>
    have q : SRes E W F Z (match L2.ixN xs.length j with
      | some k => .nx (ρ.set i (some (.lst true (xs.set k d))))
      | none => .no) := q
    have t12 := t1.trans t2
    obtain ⟨l, vs, B, ev', hl, rl, Bfp, nB, wr⟩ := (s.tr t12).lst (sl.tr t12) e
    rw [ev] at ev'
    cases ev'
    cases ek : L2.ixN xs.length j with
    | none => rw [ek] at q; exact q.elim
    | some k =>
      rw [ek] at q
      have hk := (L2.ixN_seq ek).2.1
      refine ⟨l, vs, j, k, rfl, r2.1, hl, by rw [← rl.len]; exact ek, q F2 _ σ t12.ff ?_⟩
      obtain ⟨A1, A2, A3, eB, rn⟩ := rl.set (r1.tr t2) hk
      have new : ∀ a ∈ A, E.He a = none ∧ ∀ j, a ∉ fp j := fun a ha => s.fresh sl (u a ha)
      rw [eB] at nB
      refine wr _ _ _ rn ?_ fun a ha => ?_
      · have n13 : (A1 ++ A3).Nodup := by
          have := List.nodup_append.mp nB
          have h12 := List.nodup_append.mp this.1
          exact List.nodup_append.mpr ⟨h12.1, this.2.1, fun a ha b hb => this.2.2 a (List.mem_append_left _ ha) b hb⟩
        have h13 := List.nodup_append.mp n13
        refine List.nodup_append.mpr ⟨List.nodup_append.mpr ⟨h13.1, nd, fun a ha b hb z => ?_⟩, h13.2.1, fun a ha b hb z => ?_⟩
        · subst z
          exact (new a hb).2 i (Bfp a (by rw [eB]; simp [ha]))
        · rcases List.mem_append.mp ha with ha | ha
          · exact h13.2.2 a ha b hb z
          · subst z
            exact (new a ha).2 i (Bfp a (by rw [eB]; simp [hb]))
      · rcases List.mem_append.mp ha with ha | ha
        · rcases List.mem_append.mp ha with ha | ha
          · exact .inl (by rw [eB]; simp [ha])
          · exact .inr (new a ha)
        · exact .inl (by rw [eB]; simp [ha])
  | _ => exact q.elim
/-- name.extend(e) -/
def lstD : D → Option (List D)
  | .lst _ ys => if D.pureL ys = true then some ys else none
  | _ => none
@[simp] theorem lstD_lst (o : Bool) (ys : List D) : lstD (.lst o ys) = if D.pureL ys = true then some ys else none := rfl
def sExt (i : Nat) (f : Env → R D) : Env → SR := fun ρ => onL i ρ fun xs => (f ρ).st ρ fun d => match lstD d with
  | some ys => if xs.length + ys.length ≤ 16777216 then .nx (ρ.set i (some (.lst true (xs ++ ys)))) else .no
  | none => .no
@[simp] theorem sExt_eq (i : Nat) (f : Env → R D) (ρ : Env) : sExt i f ρ = onL i ρ fun xs => (f ρ).st ρ fun d => match lstD d with
  | some ys => if xs.length + ys.length ≤ 16777216 then .nx (ρ.set i (some (.lst true (xs ++ ys)))) else .no
  | none => .no := rfl
theorem ss_ext {i : Nat} {o e : Expr} {f : Env → R D} {apos cpos pos : Pos} (ho : PE X o (tVar i)) (h : EV X E W e f) (hs : swapsWith (.Call (.Attribute o "extend" apos) [e] [] cpos) none pos.line X.env = pure false := by rfl)
    (hbase : attributeBase o "extend" X.env (eval o X.env) = eval o X.env := by rfl)
    (hfew : ((backTo cpos (starEach [e] X.env)).all (fun x => !x.1) && (backToKw cpos (keywordEach [] X.env)).all (fun x => x.1.isSome)
      && decide ([e].length + ([] : List Keyword).length + (if ([] : List Keyword).isEmpty then 0 else 1) < 30)) = true := by rfl)
    (hline : (apos.endLine == cpos.line) = true := by rfl) (hst : starEach [e] X.env = (false, eval e X.env) :: starEach [] X.env := by rfl) (hplain : (backTo cpos (starEach [] X.env)).any (·.1) = false := by rfl) :
    SS X E W (.Expr (.Call (.Attribute o "extend" apos) [e] [] cpos) pos) (sExt i f) := by
  refine ⟨ps_mono (ps_expr (pe_bm PySem.F.plainAttrs_list PySem.F.slot_list_extend PySem.F.type_list_extend mt_extend ho (pa_cons h.pe pa_nil hst) hbase hfew hline hst hplain) hs) fun Z σ H h => ?_⟩
  obtain ⟨F, ρ, s, q⟩ := h
  obtain ⟨xs, e, q⟩ := onL_of q
  obtain ⟨fp, sl⟩ := s.sl
  obtain ⟨v, ev, r⟩ := sl.rp i _ e
  refine ⟨v, ev, ty_lst s.fh r, F, ρ, s, Res.mono q.st (fun d _ q F1 H1 w A t1 r1 => ?_) fun c _ z => SRes.exc s z⟩
  cases ed : lstD d with
  | none => rw [ed] at q; exact q.elim
  | some ys =>
    rw [ed] at q
    have q : SRes E W F Z (if xs.length + ys.length ≤ 16777216 then .nx (ρ.set i (some (.lst true (xs ++ ys)))) else .no) := q
    by_cases hz : xs.length + ys.length ≤ 16777216
    · rw [if_pos hz] at q
      obtain ⟨l, vs, B, ev', hl, rl, Bfp, nB, wr⟩ := (s.tr t1).lst (sl.tr t1) e
      rw [ev] at ev'
      cases ev'
      cases d with
      | lst o zs =>
        obtain ⟨p, e2⟩ := if_some (show (if D.pureL zs = true then some zs else none) = some ys from ed)
        subst e2
        obtain ⟨b, ws, C, rfl, hb, rw1⟩ := Rp.lstW t1.fh r1
        have rw0 : RpL E.k F1 H1 zs ws [] := RpL.pure p (.refl _) rw1
        refine ⟨l, b, vs, ws, rfl, rfl, hl, hb, (by rw [sizeLine_eq, ← rl.len, ← rw0.len]; exact hz), q F1 _ σ t1.ff ?_⟩
        exact wr _ _ _ (rl.append rw0) (by rw [List.append_nil]; exact nB) fun a ha => .inl (by rw [List.append_nil] at ha; exact ha)
      | _ => cases ed
    · rw [if_neg hz] at q; exact q.elim
/-- name.clear() -/
def sClr (i : Nat) : Env → SR := fun ρ => onL i ρ fun _ => .nx (ρ.set i (some (.lst true [])))
@[simp] theorem sClr_eq (i : Nat) (ρ : Env) : sClr i ρ = onL i ρ fun _ => .nx (ρ.set i (some (.lst true []))) := rfl
theorem ss_clr {i : Nat} {o : Expr} {apos cpos pos : Pos} (ho : PE X o (tVar i)) (hs : swapsWith (.Call (.Attribute o "clear" apos) [] [] cpos) none pos.line X.env = pure false := by rfl)
    (hbase : attributeBase o "clear" X.env (eval o X.env) = eval o X.env := by rfl) (hline : (apos.endLine == cpos.line) = true := by rfl) :
    SS X E W (.Expr (.Call (.Attribute o "clear" apos) [] [] cpos) pos) (sClr i) := by
  refine ⟨ps_mono (ps_expr (pe_bm0 PySem.F.plainAttrs_list PySem.F.slot_list_clear PySem.F.type_list_clear mt_clear ho hbase hline) hs) fun Z σ H h => ?_⟩
  obtain ⟨F, ρ, s, q⟩ := h
  obtain ⟨xs, e, q⟩ := onL_of q
  obtain ⟨fp, sl⟩ := s.sl
  obtain ⟨v, ev, r⟩ := sl.rp i _ e
  obtain ⟨l, vs, B, ev', hl, rl, Bfp, nB, wr⟩ := s.lst sl e
  rw [ev] at ev'
  cases ev'
  exact ⟨_, ev, ty_lst s.fh r, l, vs, rfl, rfl, hl, q F _ σ (.refl _) (wr [] [] [] ⟨rfl, rfl⟩ .nil fun a z => nomatch z)⟩

/-! ### more to walk -/
/-- a list (true) or a tuple (false) that stands -/
def seqD : D → Option (Bool × List D)
  | .lst false xs => if D.pureL xs = true then some (true, xs) else none
  | .scr xs => if D.pureL xs = true then some (true, xs) else none
  | .tup xs => if D.pureL xs = true then some (false, xs) else none
  | _ => none
@[simp] theorem seqD_lst (xs : List D) : seqD (.lst false xs) = if D.pureL xs = true then some (true, xs) else none := rfl
@[simp] theorem seqD_tup (xs : List D) : seqD (.tup xs) = if D.pureL xs = true then some (false, xs) else none := rfl
@[simp] theorem seqD_scr (xs : List D) : seqD (.scr xs) = if D.pureL xs = true then some (true, xs) else none := rfl
def SqB (b : Bool) (K : PySem.W.Frag) (H : Hp) (a : Addr) (vs : List V) : Prop := match b with
  | true => SqL K H a vs
  | false => SqT K H a vs
theorem seq_of {F H : Hp} {d : D} {v : V} {A : List Addr} {b : Bool} {ds : List D} (r : Rp E.k F H d v A) (e : seqD d = some (b, ds)) : D.pureL ds = true ∧ ∃ a vs, v = .ref a ∧ SqB b E.k.K F a vs ∧ RpL E.k F H ds vs [] := by
  cases d with
  | lst o xs =>
    cases o with
    | false =>
      obtain ⟨z, e⟩ := if_some (show (if D.pureL xs = true then some (true, xs) else none) = some (b, ds) from e)
      cases e
      obtain ⟨a, vs, B, rfl, r, h1, h2⟩ := r
      exact ⟨z, a, vs, rfl, .inl (.inl (h1 rfl).1), RpL.pure z (.refl _) r⟩
    | true => cases e
  | tup xs =>
    obtain ⟨z, e⟩ := if_some (show (if D.pureL xs = true then some (false, xs) else none) = some (b, ds) from e)
    cases e
    obtain ⟨a, vs, rfl, s, r⟩ := r
    exact ⟨z, a, vs, rfl, s, RpL.pure z (.refl _) r⟩
  | scr xs =>
    obtain ⟨z, e⟩ := if_some (show (if D.pureL xs = true then some (true, xs) else none) = some (b, ds) from e)
    cases e
    obtain ⟨a, vs, rfl, _, s, r⟩ := r
    exact ⟨z, a, vs, rfl, s, RpL.pure z (.refl _) r⟩
  | _ => cases e
/-- pairs -/
def zipD : List D → List D → List D
  | x :: xs, y :: ys => .tup [x, y] :: zipD xs ys
  | _, _ => []
@[simp] theorem zipD_cons (x y : D) (xs ys : List D) : zipD (x :: xs) (y :: ys) = .tup [x, y] :: zipD xs ys := rfl
@[simp] theorem zipD_nil (ys : List D) : zipD [] ys = [] := by cases ys <;> rfl
@[simp] theorem zipD_nil' (xs : List D) : zipD xs [] = [] := by cases xs <;> rfl
theorem zipD_get : ∀ {xs ys : List D} {i : Nat} {d : D}, (zipD xs ys)[i]? = some d → ∃ x y, xs[i]? = some x ∧ ys[i]? = some y ∧ d = .tup [x, y]
  | x :: xs, y :: ys, 0, d, h => ⟨x, y, rfl, rfl, by simpa using h.symm⟩
  | x :: xs, y :: ys, i + 1, d, h => by simpa using zipD_get (xs := xs) (ys := ys) (i := i) (by simpa using h)
  | [], ys, i, d, h => by rw [zipD_nil] at h; simp at h
  | x :: xs, [], i, d, h => by rw [zipD_nil'] at h; simp at h
theorem zipD_len : ∀ {xs ys : List D}, (zipD xs ys).length = min xs.length ys.length
  | x :: xs, y :: ys => by rw [zipD_cons, List.length_cons, List.length_cons, List.length_cons, zipD_len]; omega
  | [], ys => by simp
  | x :: xs, [] => by simp
def ItzB (b : Bool) (K : PySem.W.Frag) (a c : Addr) : It := match b with
  | true => Itz K a c
  | false => RZ.ItzT K a c
theorem pure_tup2 {x y : D} (hx : x.pure = true) (hy : y.pure = true) : (D.tup [x, y]).pure = true := by simp [D.pure, D.pureL, hx, hy]
theorem rp_pair {k : Kx} {F H : Hp} {x y : D} {v w : V} {T : Addr} (fh : Ex F H) (hT : H T = none) (rx : Rp k F H x v []) (ry : Rp k F H y w []) : Tr F H (upd F T (.tup [v, w])) (upd H T (.tup [v, w])) ∧ Rp k (upd F T (.tup [v, w])) (upd H T (.tup [v, w])) (.tup [x, y]) (.ref T) [] := by
  have t := tr_newF (o := .tup [v, w]) fh hT
  exact ⟨t, T, [v, w], rfl, .inl (.inl upd_same), v, [w], [], [], rfl, rfl, rx.tr t, w, [], [], [], rfl, rfl, ry.tr t, rfl, rfl⟩
theorem wk_zip {k : Kx} {F H : Hp} {b : Bool} {a c : Addr} {vs ws : List V} {xs ys : List D} (sa : SqB b k.K F a vs) (sb : SqB b k.K F c ws) (px : D.pureL xs = true) (py : D.pureL ys = true) (rx : RpL k F H xs vs []) (ry : RpL k F H ys ws []) :
    Wk k (ItzB b k.K a c) F (zipD xs ys) := by
  have hx := rx.len
  have hy := ry.len
  cases b with
  | true =>
    refine ⟨fun i hi F' H' x y => ?_, fun F' H' x y => ?_, fun i d e F' H' v H'' x y h => ?_⟩
    · rw [zipD_len] at hi
      exact ⟨vs, ws, vs[i]'(by omega), ws[i]'(by omega), ex_l (x.trans y) sa, ex_l (x.trans y) sb, List.getElem?_eq_getElem _, List.getElem?_eq_getElem _⟩
    · refine ⟨vs, ws, ex_l (x.trans y) sa, ex_l (x.trans y) sb, ?_⟩
      rw [zipD_len]; omega
    · obtain ⟨T, v1, v2, rfl, hT, rfl, h1, h2⟩ := h
      obtain ⟨d1, d2, e1, e2, rfl⟩ := zipD_get e
      obtain ⟨w1, g1, r1⟩ := rx.get0 e1
      obtain ⟨w2, g2, r2⟩ := ry.get0 e2
      have := (h1 vs (ex_l (x.trans y) sa)).symm.trans g1
      cases this
      have := (h2 ws (ex_l (x.trans y) sb)).symm.trans g2
      cases this
      obtain ⟨t, r⟩ := rp_pair y hT (Rp.pure (H' := H') (pureL_get px e1) x r1) (Rp.pure (H' := H') (pureL_get py e2) x r2)
      exact ⟨pure_tup2 (pureL_get px e1) (pureL_get py e2), _, t, r⟩
  | false =>
    refine ⟨fun i hi F' H' x y => ?_, fun F' H' x y => ?_, fun i d e F' H' v H'' x y h => ?_⟩
    · rw [zipD_len] at hi
      exact ⟨vs, ws, vs[i]'(by omega), ws[i]'(by omega), ex_t (x.trans y) sa, ex_t (x.trans y) sb, List.getElem?_eq_getElem _, List.getElem?_eq_getElem _⟩
    · refine ⟨vs, ws, ex_t (x.trans y) sa, ex_t (x.trans y) sb, ?_⟩
      rw [zipD_len]; omega
    · obtain ⟨T, v1, v2, rfl, hT, rfl, h1, h2⟩ := h
      obtain ⟨d1, d2, e1, e2, rfl⟩ := zipD_get e
      obtain ⟨w1, g1, r1⟩ := rx.get0 e1
      obtain ⟨w2, g2, r2⟩ := ry.get0 e2
      have := (h1 vs (ex_t (x.trans y) sa)).symm.trans g1
      cases this
      have := (h2 ws (ex_t (x.trans y) sb)).symm.trans g2
      cases this
      obtain ⟨t, r⟩ := rp_pair y hT (Rp.pure (H' := H') (pureL_get px e1) x r1) (Rp.pure (H' := H') (pureL_get py e2) x r2)
      exact ⟨pure_tup2 (pureL_get px e1) (pureL_get py e2), _, t, r⟩
def zip2 : List D → Option (List D)
  | [x, y] => match seqD x, seqD y with
    | some (b, xs), some (c, ys) => if b = c then some (zipD xs ys) else none
    | _, _ => none
  | _ => none
@[simp] theorem zip2_eq (x y : D) : zip2 [x, y] = match seqD x, seqD y with
    | some (b, xs), some (c, ys) => if b = c then some (zipD xs ys) else none
    | _, _ => none := rfl
theorem ei_zip {e e2 : Expr} {fs : Env → R (List D)} {p pos tpos : Pos} {elts : List Expr} {kk : Nat} (hK : E.k.K = X.K) (hg : Gl X "zip") (hm : X.mg "zip" = none) (ha : EA X E W [e, e2] fs)
    (hs : starEach [e, e2] X.env = (false, eval e X.env) :: starEach [e2] X.env := by rfl) (hpl : (backTo pos (starEach [e2] X.env)).any (·.1) = false := by rfl) :
    EI X E W (.Tuple elts kk tpos) (.Call (.Name "zip" p) [e, e2] [] pos) (iA zip2 fs) := by
  refine ⟨pi_mono (RZ.pi_zipA hg hm ha.pa hs hpl) fun σ H P q => ?_⟩
  obtain ⟨F, ρ, s, q⟩ := q
  refine ⟨F, ρ, s, Res.mono q.bind (fun ds he q F1 H1 vs t1 r1 => ?_) fun c _ z F' H' t => z F' H' t⟩
  obtain ⟨es, e, p⟩ := Res.opt q
  clear he
  unfold zip2 at e
  split at e
  · rename_i x y
    split at e
    · rename_i b xs c ys ex ey
      obtain ⟨z, e⟩ := if_some e
      cases e
      cases z
      obtain ⟨v, w, A, B, rfl, rx, ry⟩ := Vw.two r1
      obtain ⟨px, a, ws, rfl, sa, q1⟩ := seq_of rx ex
      obtain ⟨py, a2, ws2, rfl, sb, q2⟩ := seq_of ry ey
      have wk := p F1 H1 _ t1 (wk_zip sa sb px py q1 q2)
      rw [← hK]
      refine ⟨a, a2, ws, ws2, rfl, ?_⟩
      cases b with
      | true => exact .inl ⟨ex_l t1.fh sa, ex_l t1.fh sb, wk⟩
      | false => exact .inr ⟨ex_t t1.fh sa, ex_t t1.fh sb, wk⟩
    · cases e
  · cases e
/-! enumerate -/
def enumD : Nat → List D → List D
  | _, [] => []
  | n, x :: xs => .tup [.int (n : Nat), x] :: enumD (n + 1) xs
@[simp] theorem enumD_nil (n : Nat) : enumD n [] = [] := rfl
@[simp] theorem enumD_cons (n : Nat) (x : D) (xs : List D) : enumD n (x :: xs) = .tup [.int (n : Nat), x] :: enumD (n + 1) xs := rfl
theorem enumD_len : ∀ {n : Nat} {xs : List D}, (enumD n xs).length = xs.length
  | _, [] => rfl
  | n, x :: xs => by rw [enumD_cons, List.length_cons, List.length_cons, enumD_len]
theorem enumD_get : ∀ {xs : List D} {n i : Nat}, (enumD n xs)[i]? = xs[i]?.map fun x => .tup [.int ((n + i : Nat) : Int), x]
  | [], n, i => by simp
  | x :: xs, n, 0 => by simp
  | x :: xs, n, i + 1 => by
    rw [enumD_cons, List.getElem?_cons_succ, enumD_get, List.getElem?_cons_succ]
    congr 1
    funext y
    rw [show n + 1 + i = n + (i + 1) by omega]
theorem wk_enum {k : Kx} {F H : Hp} {a : Addr} {vs : List V} {xs : List D} (sa : SqL k.K F a vs) (px : D.pureL xs = true) (rx : RpL k F H xs vs []) : Wk k (Ite k.K a) F (enumD 0 xs) := by
  have hx := rx.len
  refine ⟨fun i hi F' H' x y => ?_, fun F' H' x y => ?_, fun i d e F' H' v H'' x y h => ?_⟩
  · rw [enumD_len] at hi
    exact ⟨vs, vs[i]'(by omega), ex_l (x.trans y) sa, List.getElem?_eq_getElem _⟩
  · refine ⟨vs, ex_l (x.trans y) sa, ?_⟩
    rw [enumD_len]; omega
  · obtain ⟨T, v1, rfl, hT, rfl, h1⟩ := h
    rw [enumD_get] at e
    cases e1 : xs[i]? with
    | none => rw [e1] at e; cases e
    | some d1 =>
      rw [e1] at e
      cases e
      obtain ⟨w1, g1, r1⟩ := rx.get0 e1
      have := (h1 vs (ex_l (x.trans y) sa)).symm.trans g1
      cases this
      have ri : Rp k F' H' (.int ((0 + i : Nat) : Int)) (.int (i : Nat)) [] := by rw [Nat.zero_add]; exact ⟨rfl, rfl⟩
      obtain ⟨t, r⟩ := rp_pair y hT ri (Rp.pure (H' := H') (pureL_get px e1) x r1)
      exact ⟨pure_tup2 rfl (pureL_get px e1), _, t, r⟩
def enum1 : List D → Option (List D)
  | [x] => match seqD x with
    | some (true, xs) => some (enumD 0 xs)
    | _ => none
  | _ => none
@[simp] theorem enum1_eq (x : D) : enum1 [x] = match seqD x with
    | some (true, xs) => some (enumD 0 xs)
    | _ => none := rfl
theorem ei_enum {e : Expr} {fs : Env → R (List D)} {p pos tpos : Pos} {elts : List Expr} {kk : Nat} (hK : E.k.K = X.K) (hg : Gl X "enumerate") (hm : X.mg "enumerate" = none) (ha : EA X E W [e] fs) (hs : starEach [e] X.env = [(false, eval e X.env)] := by rfl) :
    EI X E W (.Tuple elts kk tpos) (.Call (.Name "enumerate" p) [e] [] pos) (iA enum1 fs) := by
  refine ⟨pi_mono (pi_enum hg hm ha.pa hs) fun σ H P q => ?_⟩
  obtain ⟨F, ρ, s, q⟩ := q
  refine ⟨F, ρ, s, Res.mono q.bind (fun ds he q F1 H1 vs t1 r1 => ?_) fun c _ z F' H' t => z F' H' t⟩
  obtain ⟨es, e, p⟩ := Res.opt q
  clear he
  unfold enum1 at e
  split at e
  · rename_i x
    split at e
    · rename_i xs ex
      cases e
      obtain ⟨v, A, rfl, rx⟩ := Vw.one r1
      obtain ⟨px, a, ws, rfl, sa, q1⟩ := seq_of rx ex
      have wk := p F1 H1 _ t1 (wk_enum sa px q1)
      rw [hK] at wk
      have sa : SqL E.k.K F1 a ws := sa
      rw [hK] at sa
      exact ⟨a, ws, rfl, ex_l t1.fh sa, wk⟩
    · cases e
  · cases e
/-! reversed -/
theorem wk_rev {k : Kx} {F H : Hp} {b : Bool} {a : Addr} {vs : List V} {xs : List D} (sa : SqB b k.K F a vs) (px : D.pureL xs = true) (rx : RpL k F H xs vs []) : Wk k (match b with | true => Itv k.K a vs.length | false => RT.ItvT k.K a vs.length) F xs.reverse := by
  have hx := rx.len
  cases b with
  | true =>
    refine ⟨fun i hi F' H' x y => ?_, fun F' H' x y => ?_, fun i d e F' H' v H'' x y h => ?_⟩
    · rw [List.length_reverse] at hi
      exact ⟨by omega, vs, vs[vs.length - 1 - i]'(by omega), ex_l (x.trans y) sa, List.getElem?_eq_getElem _⟩
    · show vs.length ≤ _
      rw [List.length_reverse]; omega
    · obtain ⟨rfl, h1⟩ := h
      have hi : i < xs.length := by
        have := (List.getElem?_eq_some_iff.mp e).1
        rw [List.length_reverse] at this; exact this
      rw [List.getElem?_reverse hi] at e
      obtain ⟨w1, g1, r1⟩ := rx.get0 e
      have := h1 vs (ex_l (x.trans y) sa)
      rw [← hx, g1] at this
      cases this
      exact ⟨pureL_get px e, F', Tr.refl y, Rp.pure (pureL_get px e) x r1⟩
  | false =>
    refine ⟨fun i hi F' H' x y => ?_, fun F' H' x y => ?_, fun i d e F' H' v H'' x y h => ?_⟩
    · rw [List.length_reverse] at hi
      exact ⟨by omega, vs, vs[vs.length - 1 - i]'(by omega), ex_t (x.trans y) sa, List.getElem?_eq_getElem _⟩
    · show vs.length ≤ _
      rw [List.length_reverse]; omega
    · obtain ⟨rfl, h1⟩ := h
      have hi : i < xs.length := by
        have := (List.getElem?_eq_some_iff.mp e).1
        rw [List.length_reverse] at this; exact this
      rw [List.getElem?_reverse hi] at e
      obtain ⟨w1, g1, r1⟩ := rx.get0 e
      have := h1 vs (ex_t (x.trans y) sa)
      rw [← hx, g1] at this
      cases this
      exact ⟨pureL_get px e, F', Tr.refl y, Rp.pure (pureL_get px e) x r1⟩
def revD (d : D) : Option (List D) := (seqD d).map fun x => x.2.reverse
@[simp] theorem revD_eq (d : D) : revD d = (seqD d).map fun x => x.2.reverse := rfl
/-- looked at; an own one is frozen for the walk -/
def iRev (f : Env → R D) : Env → R (List D) := fun ρ => (f ρ).bind fun d => R.opt (revD d)
@[simp] theorem iRev_eq (f : Env → R D) (ρ : Env) : iRev f ρ = (f ρ).bind fun d => R.opt (revD d) := rfl
def iRevO (f : Env → R D) : Env → R (List D) := fun ρ => (f ρ).bind fun d => if d.cold = true then R.opt (revD d.frz) else .no
@[simp] theorem iRevO_eq (f : Env → R D) (ρ : Env) : iRevO f ρ = (f ρ).bind fun d => if d.cold = true then R.opt (revD d.frz) else .no := rfl
theorem rev_seq {F H F1 H1 : Hp} {d : D} {v : V} {A : List Addr} {ds : List D} {P : It → Hp → Prop} (t1 : Tr F H F1 H1) (r1 : Rp E.k F1 H1 d v A) (e : revD d = some ds) (p : ∀ F' H' J, Tr F H F' H' → Wk E.k J F' ds → P J H') :
    ∃ (a : Addr) (xs : List V), v = .ref a ∧ ((SqL E.k.K H1 a xs ∧ P (Itv E.k.K a xs.length) H1) ∨ (SqT E.k.K H1 a xs ∧ P (RT.ItvT E.k.K a xs.length) H1)) := by
  cases ex : seqD d with
  | none => rw [revD_eq, ex] at e; cases e
  | some x =>
    obtain ⟨b, xs⟩ := x
    rw [revD_eq, ex] at e
    cases e
    obtain ⟨px, a, ws, rfl, sa, r1⟩ := seq_of r1 ex
    have wk := p F1 H1 _ t1 (wk_rev sa px r1)
    refine ⟨a, ws, rfl, ?_⟩
    cases b with
    | true => exact .inl ⟨ex_l t1.fh sa, wk⟩
    | false => exact .inr ⟨ex_t t1.fh sa, wk⟩
theorem ei_rev {tg e : Expr} {f : Env → R D} {p pos : Pos} (hK : E.k.K = X.K) (hg : Gl X "reversed") (hm : X.mg "reversed" = none) (h : EV X E W e f) (hs : starEach [e] X.env = (false, eval e X.env) :: starEach [] X.env := by rfl) :
    EI X E W tg (.Call (.Name "reversed" p) [e] [] pos) (iRev f) := by
  refine ⟨pi_mono (RT.pi_revA hg hm h.pe hs) fun σ H P q => ?_⟩
  obtain ⟨F, ρ, s, q⟩ := q
  refine ⟨F, ρ, s, Res.mono q.bind (fun d _ q F1 H1 v A t1 r1 => ?_) fun c _ z F' H' t => z F' H' t⟩
  obtain ⟨ds, e, p⟩ := Res.opt q
  rw [← hK]
  exact rev_seq t1 r1 e p
theorem ei_revO {tg e : Expr} {f : Env → R D} {p pos : Pos} (hK : E.k.K = X.K) (hg : Gl X "reversed") (hm : X.mg "reversed" = none) (h : EO X E W e f) (hs : starEach [e] X.env = (false, eval e X.env) :: starEach [] X.env := by rfl) :
    EI X E W tg (.Call (.Name "reversed" p) [e] [] pos) (iRevO f) := by
  refine ⟨pi_mono (RT.pi_revA hg hm h.pe hs) fun σ H P q => ?_⟩
  obtain ⟨F, ρ, s, q⟩ := q
  refine ⟨F, ρ, s, Res.mono q.bind (fun d _ q F1 H1 v A t1 r1 nd u => ?_) fun c _ z F' H' t => z F' H' t⟩
  by_cases c : d.cold = true
  · rw [if_pos c] at q
    obtain ⟨ds, e, p⟩ := Res.opt q
    rw [← hK]
    have n := fun a ha => (Rp.dom d v A r1 a ha).1
    exact rev_seq (tr_fz t1 n u) (Rp.frz (H' := H1) n d v A c (fun _ z => z) r1) e p
  · rw [if_neg c] at q
    exact q.elim
/-! range of three, reversed ranges -/
def rngC (lo c : Int) (n : Nat) : List D := (List.range n).map fun i : Nat => .int (lo + (i : Int) * c)
theorem rngC_len (lo c : Int) (n : Nat) : (rngC lo c n).length = n := by simp [rngC]
theorem wk_rngC {k : Kx} {F : Hp} {lo c : Int} {n : Nat} : Wk k (Itc lo c n) F (rngC lo c n) where
  go := fun i hi F' H' _ _ => by
    rw [rngC_len] at hi
    exact hi
  stop := fun F' H' _ _ => by
    rw [rngC_len]
    exact Nat.le_refl _
  yld := fun i d e F' H' v H'' _ y h => by
    obtain ⟨rfl, rfl⟩ := h
    have hi : i < n := by
      have := (List.getElem?_eq_some_iff.mp e).1
      rw [rngC_len] at this
      exact this
    have e' : d = .int (lo + (i : Int) * c) := by
      unfold rngC at e
      rw [List.getElem?_map, List.getElem?_range hi] at e
      exact (Option.some.inj e).symm
    subst e'
    exact ⟨rfl, F', Tr.refl y, rfl, rfl⟩
/-- what the library asks of a range of three -/
def R3Ok (i j c : Int) (n : Nat) : Prop := c ≠ 0 ∧ c.natAbs < 1073741824 ∧ Builtin.Range.small i j c = true ∧ Builtin.Range.rangeSize i j c = (n : Int)
noncomputable instance (i j c : Int) (n : Nat) : Decidable (R3Ok i j c n) := Classical.propDecidable _
/-- the number of turns -/
def cntC (i j c : Int) : Nat := (Builtin.Range.rangeSize i j c).toNat
noncomputable def rng3 : List D → Option (List D)
  | [.int i, .int j, .int c] => if R3Ok i j c (cntC i j c) then some (rngC i c (cntC i j c)) else none
  | _ => none
@[simp] theorem rng3_int (i j c : Int) : rng3 [.int i, .int j, .int c] = if R3Ok i j c (cntC i j c) then some (rngC i c (cntC i j c)) else none := rfl
theorem Vw.three {k : Kx} {F H : Hp} {vs : List V} {d e g : D} (h : Vw k F H vs [d, e, g]) : ∃ v w x A B C, vs = [v, w, x] ∧ Rp k F H d v A ∧ Rp k F H e w B ∧ Rp k F H g x C := by
  cases h with
  | cons r t =>
    obtain ⟨A, r⟩ := r
    obtain ⟨w, x, B, C, rfl, r2, r3⟩ := Vw.two t
    exact ⟨_, w, x, A, B, C, rfl, r, r2, r3⟩
theorem ei_rng3 {tg a b c : Expr} {fs : Env → R (List D)} {p pos : Pos} (hg : Gl X "range") (hm : X.mg "range" = none) (ha : EA X E W [a, b, c] fs)
    (hs : starEach [a, b, c] X.env = (false, eval a X.env) :: starEach [b, c] X.env := by rfl) (hpl : (backTo pos (starEach [b, c] X.env)).any (·.1) = false := by rfl) : EI X E W tg (.Call (.Name "range" p) [a, b, c] [] pos) (iA rng3 fs) := by
  refine ⟨pi_mono (pi_range3 hg hm ha.pa hs hpl) fun σ H P q => ?_⟩
  obtain ⟨F, ρ, s, q⟩ := q
  refine ⟨F, ρ, s, Res.mono q.bind (fun ds he q F1 H1 vs t1 r1 => ?_) fun c _ z F' H' t => z F' H' t⟩
  obtain ⟨es, e, p⟩ := Res.opt q
  clear he
  unfold rng3 at e
  split at e
  · obtain ⟨z, e⟩ := if_some e
    cases e
    obtain ⟨v, w, x, A, B, C, rfl, r, r2, r3⟩ := Vw.three r1
    rw [r.1, r2.1, r3.1]
    exact ⟨_, _, _, _, rfl, z, p F1 H1 _ t1 wk_rngC⟩
  · cases e
noncomputable def rvr1 : D → Option (List D)
  | .int n => if W62 n then some (rngC ((n.toNat : Int) - 1) (-1) n.toNat) else none
  | _ => none
@[simp] theorem rvr1_int (n : Int) : rvr1 (.int n) = if W62 n then some (rngC ((n.toNat : Int) - 1) (-1) n.toNat) else none := rfl
noncomputable def iRv1 (f : Env → R D) : Env → R (List D) := fun ρ => (f ρ).bind fun d => R.opt (rvr1 d)
@[simp] theorem iRv1_eq (f : Env → R D) (ρ : Env) : iRv1 f ρ = (f ρ).bind fun d => R.opt (rvr1 d) := rfl
theorem ei_revR1 {tg a : Expr} {f : Env → R D} {p2 pos2 p pos : Pos} (hg : Gl X "reversed") (hm : X.mg "reversed" = none) (hg2 : Gl X "range") (hm2 : X.mg "range" = none) (h : EV X E W a f) (na : starEach [a] X.env = (false, eval a X.env) :: starEach [] X.env := by rfl)
    (hs : starEach [.Call (.Name "range" p2) [a] [] pos2] X.env = (false, eval (.Call (.Name "range" p2) [a] [] pos2) X.env) :: starEach [] X.env := by rfl) :
    EI X E W tg (.Call (.Name "reversed" p) [.Call (.Name "range" p2) [a] [] pos2] [] pos) (iRv1 f) := by
  refine ⟨pi_mono (pi_revR hg hm (prg_1 hg2 hm2 h.pe na) hs) fun σ H P q => ?_⟩
  obtain ⟨F, ρ, s, q⟩ := q
  refine ⟨F, ρ, s, Res.mono q.bind (fun d _ q F1 H1 v A t1 r1 => ?_) fun c _ z F' H' t => z F' H' t⟩
  obtain ⟨ds, e, p⟩ := Res.opt q
  cases d with
  | int n =>
    obtain ⟨z, e⟩ := if_some (show (if W62 n then some (rngC ((n.toNat : Int) - 1) (-1) n.toNat) else none) = some ds from e)
    subst e
    obtain ⟨z1, z2⟩ := z
    refine ⟨n, r1.1, by omega, by omega, by omega, by omega, ?_⟩
    have e1 : (0 : Int) + (((n - 0).toNat : Nat) : Int) - 1 = (n.toNat : Int) - 1 := by rw [Int.sub_zero]; omega
    rw [e1, Int.sub_zero]
    exact p F1 H1 _ t1 wk_rngC
  | _ => cases e
end
end Dv
end
section
set_option maxRecDepth 100000
set_option maxHeartbeats 1000000
namespace Dv
open PySem PySem.Spec PyProof.Rows L2

section
variable {X : Cx} {E : En} {W : WX}
/-! ### in -/
def rInT (K : PySem.W.Frag) : R2 := fun x y H Q => ∃ d ds, Dp K H x d ∧ Dp K H y (.tuple ds) ∧ SeqAt.shaped d = true ∧ SeqAt.shaped (.tuple ds) = true ∧ Q (.bl (ds.any fun z => PyData.eqv z d)) H
def rNotInT (K : PySem.W.Frag) : R2 := fun x y H Q => ∃ d ds, Dp K H x d ∧ Dp K H y (.tuple ds) ∧ SeqAt.shaped d = true ∧ SeqAt.shaped (.tuple ds) = true ∧ Q (.bl (!ds.any fun z => PyData.eqv z d)) H
theorem op_inT (hu : X.A.units + 65 < cLine) : OpR X (compareOp .In) (rInT X.K) := by
  intro pins s σ H x y v u Q I rx ry h
  obtain ⟨d, ds, hd, he, sd, se, q⟩ := h
  obtain ⟨as, r1⟩ := Dp.reads I d x v hd rx
  obtain ⟨bs, r2⟩ := Dp.reads I (.tuple ds) y u he ry
  exact SeqAt.in_tuple_reads r2 r1 (SeqAt.canLay_of_shaped se) (SeqAt.canLay_of_shaped sd) (room_in_shaped sd hu) ⟨.bl _, H, I, rfl, q⟩
theorem op_notInT (hu : X.A.units + 65 < cLine) : OpR X (compareOp .NotIn) (rNotInT X.K) := by
  intro pins s σ H x y v u Q I rx ry h
  obtain ⟨d, ds, hd, he, sd, se, q⟩ := h
  obtain ⟨as, r1⟩ := Dp.reads I d x v hd rx
  obtain ⟨bs, r2⟩ := Dp.reads I (.tuple ds) y u he ry
  exact SeqAt.notIn_tuple_reads r2 r1 (SeqAt.canLay_of_shaped se) (SeqAt.canLay_of_shaped sd) (room_in_shaped sd hu) ⟨.bl _, H, I, rfl, q⟩
theorem D.any_eqv (d : D) : ∀ xs : List D, (D.toPL xs).any (fun z => PyData.eqv z d.toP) = xs.any fun y => y.eqv d
  | [] => rfl
  | x :: xs => by
    rw [D.toPL, List.any_cons, List.any_cons, D.any_eqv d xs]
    rfl
def txs : List D → Option (List Str)
  | [] => some []
  | .str x :: xs => (txs xs).map fun r => x :: r
  | _ :: _ => none
@[simp] theorem txs_nil : txs [] = some [] := rfl
@[simp] theorem txs_cons (x : Str) (xs : List D) : txs (.str x :: xs) = (txs xs).map fun r => x :: r := rfl
theorem txs_rp {k : Kx} {F H : Hp} : ∀ {xs : List D} {vs : List V} {A : List Addr} {ss : List Str}, RpL k F H xs vs A → txs xs = some ss → vs = ss.map V.str
  | [], vs, A, ss, h, e => by
    cases e
    rw [h.1]; rfl
  | .str x :: xs, vs, A, ss, h, e => by
    obtain ⟨v, ws, B, C, rfl, rfl, h1, h2⟩ := h
    rw [txs_cons] at e
    cases z : txs xs with
    | none => rw [z] at e; cases e
    | some r =>
      rw [z] at e
      cases e
      rw [txs_rp h2 z, h1.1]
      rfl
  | .non :: _, _, _, _, _, e => nomatch e
  | .bl _ :: _, _, _, _, _, e => nomatch e
  | .int _ :: _, _, _, _, _, e => nomatch e
  | .tup _ :: _, _, _, _, _, e => nomatch e
  | .lst _ _ :: _, _, _, _, _, e => nomatch e
  | .scr _ :: _, _, _, _, _, e => nomatch e
  | .dic _ _ _ :: _, _, _, _, _, e => nomatch e
  | .dit _ _ _ :: _, _, _, _, _, e => nomatch e
  | .ins _ _ _ :: _, _, _, _, _, e => nomatch e
theorem inV_txs (x : Str) : ∀ ss : List Str, inV (.str x) (ss.map V.str) = ss.any (· == x)
  | [] => rfl
  | s :: ss => by
    have ih := inV_txs x ss
    unfold inV at ih ⊢
    rw [List.map_cons, List.any_cons, List.any_cons, ih]
    rfl
theorem flat_txs : ∀ ss : List Str, (ss.map V.str).all flatV = true
  | [] => rfl
  | s :: ss => by rw [List.map_cons, List.all_cons, flat_txs ss]; rfl
/-- x in a list, a tuple, a text -/
def inB : D → D → Option Bool
  | .str x, .str z => if x.length = 1 then some (decide (x.cps.getD 0 0 ∈ z.cps.toList)) else none
  | x, s => match items s with
    | some xs => match x, txs xs with
      | .str x, some ss => some (ss.any (· == x))
      | _, _ => if x.lay 60 = true ∧ s.lay 60 = true then some (xs.any fun y => y.eqv x) else none
    | none => none
def gIn (x s : D) : Option D := (inB x s).map fun b => .bl b
def gNotIn (x s : D) : Option D := (inB x s).map fun b => .bl (!b)
def rInA (K : PySem.W.Frag) : R2 := fun x y H Q => (rInD K x y H Q ∨ rInT K x y H Q) ∨ (rIn K false x y H Q ∨ ∃ (c : Nat) (z : Str), x = .str ⟨#[c]⟩ ∧ y = .str z ∧ Q (.bl (decide (c ∈ z.cps.toList))) H)
def rNotInA (K : PySem.W.Frag) : R2 := fun x y H Q => (rNotInD K x y H Q ∨ rNotInT K x y H Q) ∨ (rIn K true x y H Q ∨ ∃ (c : Nat) (z : Str), x = .str ⟨#[c]⟩ ∧ y = .str z ∧ Q (.bl (!decide (c ∈ z.cps.toList))) H)
theorem op_inA (hu : X.A.units + 65 < cLine) : OpR X (compareOp .In) (rInA X.K) := ((op_inD hu).or (op_inT hu)).or (op_in_seq.or op_in_sign)
theorem op_notInA (hu : X.A.units + 65 < cLine) : OpR X (compareOp .NotIn) (rNotInA X.K) := ((op_notInD hu).or (op_notInT hu)).or (op_notIn_seq.or op_notIn_sign)
theorem one_sign {x : Str} (h : x.length = 1) : x = ⟨#[x.cps.getD 0 0]⟩ := by
  obtain ⟨a⟩ := x
  have h : a.size = 1 := h
  congr 1
  refine Array.ext h fun i h1 h2 => ?_
  have : i = 0 := by omega
  subst this
  simp [Array.getD, h]
theorem inB_says {F H : Hp} {x s : D} {v w : V} {A B : List Addr} {b : Bool} (fh : Ex F H) (rx : Rp E.k F H x v A) (ry : Rp E.k F H s w B) (e : inB x s = some b) :
    ((∃ d ds, Dp E.k.K H v d ∧ Dp E.k.K H w (.list ds) ∧ SeqAt.shaped d = true ∧ SeqAt.shaped (.list ds) = true ∧ (ds.any fun z => PyData.eqv z d) = b) ∨ (∃ d ds, Dp E.k.K H v d ∧ Dp E.k.K H w (.tuple ds) ∧ SeqAt.shaped d = true ∧ SeqAt.shaped (.tuple ds) = true ∧ (ds.any fun z => PyData.eqv z d) = b)) ∨
    ((∃ p xs, w = .ref p ∧ (SqL E.k.K H p xs ∨ SqT E.k.K H p xs) ∧ flatV v = true ∧ xs.all flatV = true ∧ inV v xs = b) ∨ ∃ (c : Nat) (z : Str), v = .str ⟨#[c]⟩ ∧ w = .str z ∧ decide (c ∈ z.cps.toList) = b) := by
  have deep : ∀ xs, items s = some xs → (if x.lay 60 = true ∧ s.lay 60 = true then some (xs.any fun y => y.eqv x) else none) = some b → ((∃ d ds, Dp E.k.K H v d ∧ Dp E.k.K H w (.list ds) ∧ SeqAt.shaped d = true ∧ SeqAt.shaped (.list ds) = true ∧ (ds.any fun z => PyData.eqv z d) = b) ∨ (∃ d ds, Dp E.k.K H v d ∧ Dp E.k.K H w (.tuple ds) ∧ SeqAt.shaped d = true ∧ SeqAt.shaped (.tuple ds) = true ∧ (ds.any fun z => PyData.eqv z d) = b)) := fun xs es e => by
    obtain ⟨z, eb⟩ := if_some e
    cases s with
    | lst o ys =>
      cases es
      refine .inl ⟨x.toP, D.toPL xs, Rp.dp fh 60 x v A z.1 rx, Rp.dp fh 60 (.lst o xs) w B z.2 ry, D.lay_shaped z.1, D.lay_shaped (d := .lst o xs) z.2, ?_⟩
      rw [D.any_eqv, eb]
    | tup ys =>
      cases es
      refine .inr ⟨x.toP, D.toPL xs, Rp.dp fh 60 x v A z.1 rx, Rp.dp fh 60 (.tup xs) w B z.2 ry, D.lay_shaped z.1, D.lay_shaped (d := .tup xs) z.2, ?_⟩
      rw [D.any_eqv, eb]
    | _ => cases es
  unfold inB at e
  split at e
  · obtain ⟨z, e⟩ := if_some e
    rw [rx.1, ry.1]
    exact .inr (.inr ⟨_, _, congrArg V.str (one_sign z), rfl, e⟩)
  · split at e
    · rename_i xs es
      split at e
      · rename_i ess _
        obtain ⟨a, vs, B', rfl, sq, r⟩ := ry.items fh es
        have := txs_rp r ess
        subst this
        rw [rx.1]
        refine .inr (.inl ⟨a, _, rfl, sq.symm, rfl, flat_txs _, ?_⟩)
        rw [inV_txs]
        exact Option.some.inj e
      · exact .inl (deep xs es e)
    · cases e
theorem says_in : Says2 E (rInA E.k.K) gIn := by
  intro F H x y v w A B Q d fh rx ry e g
  unfold gIn at e
  cases eb : inB x y with
  | none => rw [eb] at e; cases e
  | some b =>
    rw [eb] at e
    cases e
    have qb : Q (.bl b) H := g.scal fh fun _ _ => ⟨rfl, rfl⟩
    rcases inB_says fh rx ry eb with (⟨d, ds, h1, h2, h3, h4, h5⟩ | ⟨d, ds, h1, h2, h3, h4, h5⟩) | (⟨p, xs, h1, h2, h3, h4, h5⟩ | ⟨c, z, h1, h2, h3⟩)
    · exact .inl (.inl ⟨d, ds, h1, h2, h3, h4, by rw [h5]; exact qb⟩)
    · exact .inl (.inr ⟨d, ds, h1, h2, h3, h4, by rw [h5]; exact qb⟩)
    · exact .inr (.inl ⟨p, xs, h1, h2, h3, h4, by rw [if_neg Bool.false_ne_true, h5]; exact qb⟩)
    · exact .inr (.inr ⟨c, z, h1, h2, by rw [h3]; exact qb⟩)
theorem says_notIn : Says2 E (rNotInA E.k.K) gNotIn := by
  intro F H x y v w A B Q d fh rx ry e g
  unfold gNotIn at e
  cases eb : inB x y with
  | none => rw [eb] at e; cases e
  | some b =>
    rw [eb] at e
    cases e
    have qb : Q (.bl (!b)) H := g.scal fh fun _ _ => ⟨rfl, rfl⟩
    rcases inB_says fh rx ry eb with (⟨d, ds, h1, h2, h3, h4, h5⟩ | ⟨d, ds, h1, h2, h3, h4, h5⟩) | (⟨p, xs, h1, h2, h3, h4, h5⟩ | ⟨c, z, h1, h2, h3⟩)
    · exact .inl (.inl ⟨d, ds, h1, h2, h3, h4, by rw [h5]; exact qb⟩)
    · exact .inl (.inr ⟨d, ds, h1, h2, h3, h4, by rw [h5]; exact qb⟩)
    · exact .inr (.inl ⟨p, xs, h1, h2, h3, h4, by rw [if_pos rfl, h5]; exact qb⟩)
    · exact .inr (.inr ⟨c, z, h1, h2, by rw [h3]; exact qb⟩)
section
variable {a b : Expr} {fa fb : Env → R D} {pos : Pos}
theorem room65 {k : Nat} {A : Around} (r : Room k A) : A.units + 65 < cLine := by have := r.un; omega
theorem eo_in (hK : E.k.K = X.K) (hu : X.A.units + 65 < cLine) (ha : EV X E W a fa) (hb : EV X E W b fb) (hm : behindInMarks .In b = false := by rfl) : EO X E W (.Compare a [.In] [b] pos) (e2 gIn fa fb) := eo_cmp (op_inA hu) (by rw [← hK]; exact says_in) hm ha hb
theorem eo_notIn (hK : E.k.K = X.K) (hu : X.A.units + 65 < cLine) (ha : EV X E W a fa) (hb : EV X E W b fb) (hm : behindInMarks .NotIn b = false := by rfl) : EO X E W (.Compare a [.NotIn] [b] pos) (e2 gNotIn fa fb) := eo_cmp (op_notInA hu) (by rw [← hK]; exact says_notIn) hm ha hb
end
/-! ### built-ins over a list of ints -/
def dInts? : List D → Option (List Int)
  | [] => some []
  | .int x :: xs => (dInts? xs).map fun r => x :: r
  | _ :: _ => none
@[simp] theorem dIntsO_nil : dInts? [] = some [] := rfl
@[simp] theorem dIntsO_cons (x : Int) (xs : List D) : dInts? (.int x :: xs) = (dInts? xs).map fun r => x :: r := rfl
@[simp] theorem dIntsO_dInts : ∀ ns : List Int, dInts? (dInts ns) = some ns
  | [] => rfl
  | n :: ns => by
    show (dInts? (dInts ns)).map (fun r => n :: r) = _
    rw [dIntsO_dInts ns]; rfl
theorem dIntsO_some : ∀ {xs : List D} {ns : List Int}, dInts? xs = some ns → xs = dInts ns
  | [], ns, e => by cases e; rfl
  | .int x :: xs, ns, e => by
    rw [dIntsO_cons] at e
    cases z : dInts? xs with
    | none => rw [z] at e; cases e
    | some r =>
      rw [z] at e
      cases e
      rw [dIntsO_some z]; rfl
  | .non :: _, _, e => nomatch e
  | .bl _ :: _, _, e => nomatch e
  | .str _ :: _, _, e => nomatch e
  | .tup _ :: _, _, e => nomatch e
  | .lst _ _ :: _, _, e => nomatch e
  | .scr _ :: _, _, e => nomatch e
  | .dic _ _ _ :: _, _, e => nomatch e
  | .dit _ _ _ :: _, _, e => nomatch e
  | .ins _ _ _ :: _, _, e => nomatch e
theorem rp_ints {k : Kx} {F H : Hp} : ∀ {ns : List Int} {vs : List V} {A : List Addr}, RpL k F H (dInts ns) vs A → vs = ns.map V.int
  | [], vs, A, h => by rw [h.1]; rfl
  | n :: ns, vs, A, h => by
    obtain ⟨v, ws, B, C, rfl, rfl, h1, h2⟩ := h
    rw [rp_ints h2, h1.1]
    rfl
/-- a list of ints, looked at -/
def lInts : D → Option (List Int)
  | .lst _ xs => dInts? xs
  | .scr xs => dInts? xs
  | _ => none
@[simp] theorem lInts_lst (o : Bool) (xs : List D) : lInts (.lst o xs) = dInts? xs := rfl
@[simp] theorem lInts_scr (xs : List D) : lInts (.scr xs) = dInts? xs := rfl
theorem lInts_sq {F H : Hp} {d : D} {v : V} {A : List Addr} {ns : List Int} (fh : Ex F H) (r : Rp E.k F H d v A) (e : lInts d = some ns) : ∃ a, v = .ref a ∧ SqL E.k.K H a (ns.map V.int) := by
  cases d with
  | lst o xs =>
    obtain ⟨a, vs, B, rfl, s, r⟩ := Rp.lstW fh r
    have := dIntsO_some (show dInts? xs = some ns from e)
    subst this
    rw [rp_ints r] at s
    exact ⟨a, rfl, .inl (.inl s)⟩
  | scr xs =>
    obtain ⟨a, vs, rfl, _, s, r⟩ := r
    have := dIntsO_some (show dInts? xs = some ns from e)
    subst this
    rw [rp_ints r] at s
    exact ⟨a, rfl, ex_l fh s⟩
  | _ => cases e
def gSum : List D → Option D
  | [x] => (lInts x).map fun ns => .int ns.sum
  | _ => none
@[simp] theorem gSum_one (x : D) : gSum [x] = (lInts x).map fun ns => .int ns.sum := rfl
theorem says_sum : SaysC E (rSum E.k.K) gSum := by
  intro F H ds vs Q d fh r e g
  unfold gSum at e
  split at e
  · rename_i x
    cases ex : lInts x with
    | none => rw [ex] at e; cases e
    | some ns =>
      rw [ex] at e
      cases e
      obtain ⟨v, A, rfl, rr⟩ := r.one
      obtain ⟨a, rfl, s⟩ := lInts_sq fh rr ex
      exact ⟨a, ns, rfl, s, g.scal fh fun _ _ => ⟨rfl, rfl⟩⟩
  · cases e
/-- the greatest, the least -/
def maxL : List Int → Int
  | [] => 0
  | [x] => x
  | x :: xs => max x (maxL xs)
def minL : List Int → Int
  | [] => 0
  | [x] => x
  | x :: xs => min x (minL xs)
theorem maxL_cons (x y : Int) (xs : List Int) : maxL (x :: y :: xs) = max x (maxL (y :: xs)) := rfl
theorem minL_cons (x y : Int) (xs : List Int) : minL (x :: y :: xs) = min x (minL (y :: xs)) := rfl
theorem maxL_ge : ∀ (ns : List Int), ∀ y ∈ ns, y ≤ maxL ns
  | [], y, h => nomatch h
  | [x], y, h => by rw [List.mem_singleton.mp h]; exact Int.le_refl _
  | x :: z :: xs, y, h => by
    rw [maxL_cons]
    rcases List.mem_cons.mp h with rfl | h
    · exact Int.le_max_left _ _
    · exact Int.le_trans (maxL_ge (z :: xs) y h) (Int.le_max_right _ _)
theorem maxL_mem : ∀ (ns : List Int), ns ≠ [] → maxL ns ∈ ns
  | [], h => absurd rfl h
  | [x], _ => List.mem_singleton.mpr rfl
  | x :: z :: xs, _ => by
    rw [maxL_cons]
    rcases Int.le_total x (maxL (z :: xs)) with h | h
    · rw [Int.max_eq_right h]; exact List.mem_cons_of_mem _ (maxL_mem _ (by simp))
    · rw [Int.max_eq_left h]; exact List.mem_cons_self
theorem minL_le : ∀ (ns : List Int), ∀ y ∈ ns, minL ns ≤ y
  | [], y, h => nomatch h
  | [x], y, h => by rw [List.mem_singleton.mp h]; exact Int.le_refl _
  | x :: z :: xs, y, h => by
    rw [minL_cons]
    rcases List.mem_cons.mp h with rfl | h
    · exact Int.min_le_left _ _
    · exact Int.le_trans (Int.min_le_right _ _) (minL_le (z :: xs) y h)
theorem minL_mem : ∀ (ns : List Int), ns ≠ [] → minL ns ∈ ns
  | [], h => absurd rfl h
  | [x], _ => List.mem_singleton.mpr rfl
  | x :: z :: xs, _ => by
    rw [minL_cons]
    rcases Int.le_total x (minL (z :: xs)) with h | h
    · rw [Int.min_eq_left h]; exact List.mem_cons_self
    · rw [Int.min_eq_right h]; exact List.mem_cons_of_mem _ (minL_mem _ (by simp))
def gMax1 : List D → Option D
  | [x] => (lInts x).bind fun ns => if 0 < ns.length then some (.int (maxL ns)) else none
  | _ => none
def gMin1 : List D → Option D
  | [x] => (lInts x).bind fun ns => if 0 < ns.length then some (.int (minL ns)) else none
  | _ => none
@[simp] theorem gMax1_one (x : D) : gMax1 [x] = (lInts x).bind fun ns => if 0 < ns.length then some (.int (maxL ns)) else none := rfl
@[simp] theorem gMin1_one (x : D) : gMin1 [x] = (lInts x).bind fun ns => if 0 < ns.length then some (.int (minL ns)) else none := rfl
theorem says_max1 : SaysC E (rMax E.k.K) gMax1 := by
  intro F H ds vs Q d fh r e g
  unfold gMax1 at e
  split at e
  · rename_i x
    cases ex : lInts x with
    | none => rw [ex] at e; cases e
    | some ns =>
      rw [ex] at e
      obtain ⟨z, e⟩ := if_some (show (if 0 < ns.length then some (D.int (maxL ns)) else none) = some d from e)
      cases e
      obtain ⟨v, A, rfl, rr⟩ := r.one
      obtain ⟨a, rfl, s⟩ := lInts_sq fh rr ex
      refine ⟨a, ns, rfl, s, z, fun m h1 h2 => ?_⟩
      have : m = maxL ns := Int.le_antisymm (maxL_ge ns m h1) (h2 _ (maxL_mem ns (by intro q; subst q; cases h1)))
      rw [this]
      exact g.scal fh fun _ _ => ⟨rfl, rfl⟩
  · cases e
theorem says_min1 : SaysC E (rMin E.k.K) gMin1 := by
  intro F H ds vs Q d fh r e g
  unfold gMin1 at e
  split at e
  · rename_i x
    cases ex : lInts x with
    | none => rw [ex] at e; cases e
    | some ns =>
      rw [ex] at e
      obtain ⟨z, e⟩ := if_some (show (if 0 < ns.length then some (D.int (minL ns)) else none) = some d from e)
      cases e
      obtain ⟨v, A, rfl, rr⟩ := r.one
      obtain ⟨a, rfl, s⟩ := lInts_sq fh rr ex
      refine ⟨a, ns, rfl, s, z, fun m h1 h2 => ?_⟩
      have : m = minL ns := Int.le_antisymm (h2 _ (minL_mem ns (by intro q; subst q; cases h1))) (minL_le ns m h1)
      rw [this]
      exact g.scal fh fun _ _ => ⟨rfl, rfl⟩
  · cases e
/-- sorted -/
def sortI (ns : List Int) : List Int := ns.mergeSort (fun a b => decide (a ≤ b))
theorem sortI_perm (ns : List Int) : (sortI ns).Perm ns := List.mergeSort_perm _ _
theorem sortI_sorted (ns : List Int) : (sortI ns).Pairwise (· ≤ ·) := by
  have h := List.pairwise_mergeSort (le := fun a b : Int => decide (a ≤ b)) (fun a b c h1 h2 => by simp at *; omega) (fun a b => by simp; omega) ns
  exact h.imp fun h => by simpa using h
theorem sorted_unique {xs ys : List Int} (p : xs.Perm ys) (hx : xs.Pairwise (· ≤ ·)) (hy : ys.Pairwise (· ≤ ·)) : xs = ys := p.eq_of_pairwise (fun a b _ _ h1 h2 => Int.le_antisymm h1 h2) hx hy
def gSorted : List D → Option D
  | [x] => (lInts x).map fun ns => .lst true (dInts (sortI ns))
  | _ => none
@[simp] theorem gSorted_one (x : D) : gSorted [x] = (lInts x).map fun ns => .lst true (dInts (sortI ns)) := rfl
theorem says_sorted : SaysC E (rSortedI E.k.K) gSorted := by
  intro F H ds vs Q d fh r e g
  unfold gSorted at e
  split at e
  · rename_i x
    cases ex : lInts x with
    | none => rw [ex] at e; cases e
    | some ns =>
      rw [ex] at e
      cases e
      obtain ⟨v, A, rfl, rr⟩ := r.one
      obtain ⟨a, rfl, s⟩ := lInts_sq fh rr ex
      refine ⟨a, ns, rfl, s, fun ns' p h1 h2 hp => ?_⟩
      rw [sorted_unique (h1.trans (sortI_perm ns).symm) h2 (sortI_sorted ns)]
      exact GOk.lst fh g hp (rp_dInts _)
  · cases e
def gChr : List D → Option D
  | [.int i] => if 0 ≤ i ∧ i ≤ 1114111 then some (.str ⟨#[i.toNat]⟩) else none
  | _ => none
@[simp] theorem gChr_int (i : Int) : gChr [.int i] = if 0 ≤ i ∧ i ≤ 1114111 then some (.str ⟨#[i.toNat]⟩) else none := rfl
theorem says_chr : SaysC E (fun xs H Q => ∃ i, xs = [.int i] ∧ 0 ≤ i ∧ i ≤ 1114111 ∧ Q (.str ⟨#[i.toNat]⟩) H) gChr := by
  intro F H ds vs Q d fh r e g
  unfold gChr at e
  split at e
  · obtain ⟨z, e⟩ := if_some e
    cases e
    obtain ⟨v, A, rfl, rr⟩ := r.one
    rw [rr.1]
    exact ⟨_, rfl, z.1, z.2, g.scal fh fun _ _ => ⟨rfl, rfl⟩⟩
  · cases e
/-! ### methods of a text -/
def isStr : D → Bool
  | .str _ => true
  | _ => false
@[simp] theorem isStr_str (x : Str) : isStr (.str x) = true := rfl
def eM1 (g : D → D → Option D) (fo f : Env → R D) : Env → R D := fun ρ => (fo ρ).bind fun x => if isStr x = true then (f ρ).bind fun y => R.opt (g x y) else .no
@[simp] theorem eM1_eq (g : D → D → Option D) (fo f : Env → R D) (ρ : Env) : eM1 g fo f ρ = (fo ρ).bind fun x => if isStr x = true then (f ρ).bind fun y => R.opt (g x y) else .no := rfl
def eM0 (g : D → Option D) (fo : Env → R D) : Env → R D := fun ρ => (fo ρ).bind fun x => R.opt (g x)
@[simp] theorem eM0_eq (g : D → Option D) (fo : Env → R D) (ρ : Env) : eM0 g fo ρ = (fo ρ).bind fun x => R.opt (g x) := rfl
/-- g says what the method r does -/
def SaysM1 (E : En) (r : V → List V → Hp → VK → Prop) (g : D → D → Option D) : Prop := ∀ F H x y v w A B Q d, Ex F H → Rp E.k F H x v A → Rp E.k F H y w B → g x y = some d → GOk E F H Q d → r v [w] H Q
def SaysM0 (E : En) (r : V → List V → Hp → VK → Prop) (g : D → Option D) : Prop := ∀ F H x v A Q d, Ex F H → Rp E.k F H x v A → g x = some d → GOk E F H Q d → (∃ a, v = .str a) ∧ r v [] H Q
theorem eo_m1 {id : String} {name : Str} {o e : Expr} {fo f : Env → R D} {apos pos : Pos} {r : V → List V → Hp → VK → Prop} {g : D → D → Option D} (slot : Slot "str" name id) (ty : typeOf (.builtin id) = pure (.type "method_descriptor")) (rule : MtR X id r) (hg : SaysM1 E r g) (ho : EV X E W o fo) (he : EV X E W e f)
    (hs : starEach [e] X.env = [(false, eval e X.env)] := by rfl) (hbase : attributeBase o name X.env (eval o X.env) = eval o X.env := by rfl) (hline : (apos.endLine == pos.line) = true := by rfl) :
    EO X E W (.Call (.Attribute o name apos) [e] [] pos) (eM1 g fo f) := by
  refine ⟨pe_mono (pe_m1 slot ty rule ho.pe he.pe hs hbase hline) fun σ H Q h => ?_⟩
  obtain ⟨F, ρ, s, q⟩ := h
  refine ⟨F, ρ, s, Res.mono q.bind (fun x _ q F1 H1 v A t1 r1 => ?_) fun c _ z F' H' t => z F' H' t⟩
  by_cases hx : isStr x = true
  · rw [if_pos hx] at q
    refine ⟨?_, F1, ρ, s.tr t1, Res.mono q.bind (fun y _ q F2 H2 w B t2 r2 => ?_) fun c _ z F' H' t => z F' H' (t1.trans t)⟩
    · cases x with
      | str a => exact ⟨a, r1.1⟩
      | _ => cases hx
    · obtain ⟨d, e, p⟩ := Res.opt q
      exact hg F2 H2 x y v w A B Q d t2.fh (r1.tr t2) r2 e (GOk.back (E := E) (F := F) (H := H) p (t1.trans t2))
  · rw [if_neg hx] at q; exact q.elim
theorem eo_m0 {id : String} {name : Str} {o : Expr} {fo : Env → R D} {apos pos : Pos} {r : V → List V → Hp → VK → Prop} {g : D → Option D} (slot : Slot "str" name id) (ty : typeOf (.builtin id) = pure (.type "method_descriptor")) (rule : MtR X id r) (hg : SaysM0 E r g) (ho : EV X E W o fo)
    (hbase : attributeBase o name X.env (eval o X.env) = eval o X.env := by rfl) (hline : (apos.endLine == pos.line) = true := by rfl) : EO X E W (.Call (.Attribute o name apos) [] [] pos) (eM0 g fo) := by
  refine ⟨pe_mono (pe_m0 slot ty rule ho.pe hbase hline) fun σ H Q h => ?_⟩
  obtain ⟨F, ρ, s, q⟩ := h
  refine ⟨F, ρ, s, Res.mono q.bind (fun x _ q F1 H1 v A t1 r1 => ?_) fun c _ z F' H' t => z F' H' t⟩
  obtain ⟨d, e, p⟩ := Res.opt q
  exact hg F1 H1 x v A Q d t1.fh r1 e (GOk.back (E := E) (F := F) (H := H) p t1)
def gJoin : D → D → Option D
  | .str a, x => match items x with
    | some xs => match txs xs with
      | some ss => if (ss.map (·.length)).sum + ss.length * a.length ≤ 16777216 then some (.str (Txt.join a ss)) else none
      | none => none
    | none => none
  | _, _ => none
@[simp] theorem gJoin_eq (a : Str) (x : D) : gJoin (.str a) x = match items x with
    | some xs => match txs xs with
      | some ss => if (ss.map (·.length)).sum + ss.length * a.length ≤ 16777216 then some (.str (Txt.join a ss)) else none
      | none => none
    | none => none := by cases x <;> rfl
theorem says_join : SaysM1 E (fun x xs H Q => ∃ a p, ∃ ys : List Str, x = .str a ∧ xs = [.ref p] ∧ (SqL E.k.K H p (ys.map V.str) ∨ SqT E.k.K H p (ys.map V.str)) ∧
    (ys.map (·.length)).sum + ys.length * a.length ≤ 16777216 ∧ Q (.str (Txt.join a ys)) H) gJoin := by
  intro F H x y v w A B Q d fh rx ry e g
  cases x with
  | str a =>
    rw [gJoin_eq] at e
    split at e
    · rename_i xs es
      split at e
      · rename_i ss ess
        obtain ⟨z, e⟩ := if_some e
        cases e
        obtain ⟨p, vs, B', rfl, sq, r⟩ := ry.items fh es
        have := txs_rp r ess
        subst this
        exact ⟨a, p, ss, rx.1, rfl, sq.symm, z, g.scal fh fun _ _ => ⟨rfl, rfl⟩⟩
      · cases e
    · cases e
  | _ => cases e
theorem eo_join {o e : Expr} {fo f : Env → R D} {apos pos : Pos} (hK : E.k.K = X.K) (ho : EV X E W o fo) (he : EV X E W e f) (hs : starEach [e] X.env = [(false, eval e X.env)] := by rfl) (hbase : attributeBase o "join" X.env (eval o X.env) = eval o X.env := by rfl) (hline : (apos.endLine == pos.line) = true := by rfl) :
    EO X E W (.Call (.Attribute o "join" apos) [e] [] pos) (eM1 gJoin fo f) := eo_m1 PySem.F.slot_str_join PySem.F.type_str_join mt_join (by rw [← hK]; exact says_join) ho he hs hbase hline
end
end Dv
end
section
set_option maxRecDepth 100000
set_option maxHeartbeats 1000000
namespace Dv
open PySem PySem.Spec PyProof.Rows L2

/-! ### the module's tuples and lists -/
def Rv (k : Kx) (d : D) (u : Value) : Prop := ∃ v, RelV v u ∧ ∀ F H, Rp k F H d v []
def RvL (k : Kx) : List D → List Value → Prop
  | [], [] => True
  | d :: ds, u :: us => Rv k d u ∧ RvL k ds us
  | _, _ => False
theorem rv_int {k : Kx} {i : Int} {t : Tok} : Rv k (.int i) (.int i t) := ⟨.int i, ⟨_, rfl⟩, fun _ _ => ⟨rfl, rfl⟩⟩
theorem rv_str {k : Kx} {i : Str} {t : Tok} : Rv k (.str i) (.str i t) := ⟨.str i, ⟨_, rfl⟩, fun _ _ => ⟨rfl, rfl⟩⟩
theorem rv_bl {k : Kx} {b : Bool} : Rv k (.bl b) (.bool b) := ⟨.bl b, rfl, fun _ _ => ⟨rfl, rfl⟩⟩
theorem rv_non {k : Kx} : Rv k .non .none := ⟨.non, rfl, fun _ _ => ⟨rfl, rfl⟩⟩
theorem rvL_nil {k : Kx} : RvL k [] [] := trivial
theorem rvL_cons {k : Kx} {d : D} {u : Value} {ds : List D} {us : List Value} (h : Rv k d u) (t : RvL k ds us) : RvL k (d :: ds) (u :: us) := ⟨h, t⟩
theorem RvL.get {k : Kx} : ∀ {ds : List D} {us : List Value}, RvL k ds us → ∃ vs, Vals vs us ∧ ∀ F H, RpL k F H ds vs []
  | [], [], _ => ⟨[], .nil, fun _ _ => ⟨rfl, rfl⟩⟩
  | d :: ds, u :: us, ⟨⟨v, r, h⟩, t⟩ => by
    obtain ⟨vs, rs, hs⟩ := RvL.get t
    exact ⟨v :: vs, .cons r rs, fun F H => ⟨v, vs, [], [], rfl, rfl, h F H, hs F H⟩⟩
  | [], _ :: _, h => h.elim
  | _ :: _, [], h => h.elim
theorem rv_tup {k : Kx} {a : Addr} {od : Option Addr} {its : Array Value} {n : Nat} {sl : Array (Option Value)} {ds : List D} (l : k.K.lookup a = some ⟨.type "tuple", od, .seq its n, sl⟩) (hz : its.size ≤ 16777216) (h : RvL k ds its.toList) : Rv k (.tup ds) (.ref a) := by
  obtain ⟨vs, r, hs⟩ := h.get
  exact ⟨.ref a, rfl, fun F H => ⟨a, vs, rfl, .inr ⟨_, its, n, l, rfl, rfl, by rw [sizeLine_eq]; exact hz, r⟩, hs F H⟩⟩
theorem rv_lst {k : Kx} {a : Addr} {its : Array Value} {n : Nat} {sl : Array (Option Value)} {ds : List D} (l : k.K.lookup a = some ⟨.type "list", none, .seq its n, sl⟩) (hz : its.size ≤ 16777216) (h : RvL k ds its.toList) : Rv k (.scr ds) (.ref a) := by
  obtain ⟨vs, r, hs⟩ := h.get
  exact ⟨.ref a, rfl, fun F H => ⟨a, vs, rfl, rfl, .inr ⟨_, its, n, l, rfl, rfl, rfl, by rw [sizeLine_eq]; exact hz, r⟩, hs F H⟩⟩
theorem glob_rv {k : Kx} {mg : Str → Option Value} {x : Str} {d : D} {u : Value} (h : mg x = some u) (r : Rv k d u) : Glob k mg x d :=
  let ⟨v, r, h'⟩ := r
  ⟨u, v, h, r, h'⟩
/-! ### more about comprehensions, for the mathematics -/
/-- what is made of the items that stay -/
theorem lcL_of {g : D → Env → Option Env} {t : Env → R Bool} {f : Env → R D} {ρ : Env} (ty : D → Bool) (y : D → D) : ∀ (ds acc : List D), (∀ d ∈ ds, ∃ ρ1, g d ρ = some ρ1 ∧ t ρ1 = .ok (ty d) ∧ (ty d = true → f ρ1 = .ok (y d))) → acc.length + ds.length ≤ 16777216 →
    lcL g t f ρ ds acc = .ok (.lst true (acc ++ (ds.filter ty).map y))
  | [], acc, _, _ => by rw [lcL_nil]; simp
  | d :: ds, acc, h, hl => by
    obtain ⟨ρ1, e1, e2, e3⟩ := h d List.mem_cons_self
    rw [List.length_cons] at hl
    have ih := fun acc => lcL_of (g := g) (t := t) (f := f) (ρ := ρ) ty y ds acc fun d hd => h d (List.mem_cons_of_mem _ hd)
    rw [lcL_cons, e1]
    simp only [e2, R.calm_ok, R.bind_ok]
    cases q : ty d with
    | false => rw [if_neg Bool.false_ne_true, ih acc (by omega), List.filter_cons_of_neg (by rw [q]; exact Bool.false_ne_true)]
    | true =>
      rw [if_pos rfl, e3 q, R.calm_ok, R.bind_ok, if_pos (by omega), ih _ (by rw [List.length_append, List.length_singleton]; omega), List.filter_cons_of_pos q, List.map_cons, List.append_assoc]
      rfl
/-- without a test -/
theorem lcL_map {g : D → Env → Option Env} {t : Env → R Bool} {f : Env → R D} {ρ : Env} (y : D → D) (ds : List D) (h : ∀ d ∈ ds, ∃ ρ1, g d ρ = some ρ1 ∧ t ρ1 = .ok true ∧ f ρ1 = .ok (y d)) (hl : ds.length ≤ 16777216) :
    lcL g t f ρ ds [] = .ok (.lst true (ds.map y)) := by
  rw [lcL_of (fun _ => true) y ds [] (fun d hd => let ⟨ρ1, h1, h2, h3⟩ := h d hd; ⟨ρ1, h1, h2, fun _ => h3⟩) (by simpa using hl), List.nil_append, List.filter_eq_self.mpr fun _ _ => rfl]
end Dv
end
section
set_option maxRecDepth 100000
set_option maxHeartbeats 1000000
namespace Dv
open PySem PySem.Spec PyProof.Rows L2

section
variable {X : Cx} {E : En} {W : WX}
/-! ### a call without arguments -/
theorem pe_callS0 {CX : CXT} {k : Nat} {f : Addr} {fd : FuncData} {ps : List Str} {sp : Sp} {Ex : L2.St → XK} {x : Str} {p pos : Pos} (F : FnOk X.prog X.w X.K X.mg X.base CX k f fd ps sp) (hr : Room k X.A) (hg : Gl X x) (hm : X.mg x = some (.ref f)) (hk : PySem.W.keepIn X.K (.ref f) = true) (hb : Binds X.K fd ps []) (hx : ∀ σ, PassesAt CX X σ (Ex σ))
    (hdb : (x == ("__debug__" : Str)) = false := by decide) : PE X (.Call (.Name x p) [] [] pos) (fun σ H Q => sp [] H Q (Ex σ)) := by
  refine ⟨fun pins s σ H Q I h => ?_⟩
  refine wpAny_Call_Name_kw (ld_glob I hg hm ?_ hdb)
  exact PySem.W.callWith_K0 I.kIn hk (run_fnS F hr hb (hx σ) I .nil h)
theorem eo_call0 {k : Nat} {fa : Addr} {fd : FuncData} {ps : List Str} {f : List D → R D} {x : Str} {p pos : Pos} (G : FnOk X.prog X.w X.K X.mg X.base (L2.CX X.prog X.w) k fa fd ps (spD E.k E.ec 0 f)) (tk : Takes X W) (hr : Room k X.A) (hg : Gl X x) (hm : X.mg x = some (.ref fa)) (hk : PySem.W.keepIn X.K (.ref fa) = true) (hb : Binds X.K fd ps [])
    (hdb : (x == ("__debug__" : Str)) = false := by decide) : EO X E W (.Call (.Name x p) [] [] pos) (eCall 0 f aNil) := by
  refine ⟨pe_mono (pe_callS0 (Ex := WE W) G hr hg hm hk hb (fun σ => passAt tk σ) hdb) fun σ H Q h => ?_⟩
  obtain ⟨F, ρ, s, q⟩ := h
  refine call_of (E := E) (n := 0) (f := f) (ds := []) (Ew := WE W σ) (Tr.refl s.fh) .nil ?_
  exact q
/-! ### a list within a slot's list or tuple -/
theorem RpL.nth {k : Kx} {F H : Hp} : ∀ {ds : List D} {vs : List V} {A : List Addr} {i : Nat} {d : D}, RpL k F H ds vs A → ds[i]? = some d →
    ∃ v A1 B A3, vs[i]? = some v ∧ A = A1 ++ B ++ A3 ∧ Rp k F H d v B ∧ ∀ (F' H' : Hp) (d' : D) (B' : List Addr), Ex F F' → (∀ a, a ∈ A1 ∨ a ∈ A3 → ∀ o, H a = some o → F a = none → H' a = some o ∧ F' a = none) → Rp k F' H' d' v B' → RpL k F' H' (ds.set i d') vs (A1 ++ B' ++ A3)
  | [], _, _, _, _, _, e => by simp at e
  | d0 :: ds, _, _, 0, d, h, e => by
    obtain ⟨w, vs, A1, A2, rfl, rfl, h1, h2⟩ := h
    have e' : d0 = d := by simpa using e
    subst e'
    exact ⟨w, [], A1, A2, rfl, rfl, h1, fun F' H' d' B' x hp r => ⟨w, vs, B', A2, rfl, rfl, r, RpL.mono x ds vs A2 (fun a ha o e n => hp a (.inr ha) o e n) h2⟩⟩
  | d0 :: ds, _, _, i + 1, d, h, e => by
    obtain ⟨w, vs, A1, A2, rfl, rfl, h1, h2⟩ := h
    obtain ⟨v, C1, B, C3, e1, rfl, r, up⟩ := RpL.nth (i := i) h2 (by simpa using e)
    refine ⟨v, A1 ++ C1, B, C3, by simpa using e1, by simp, r, fun F' H' d' B' x hp r' => ?_⟩
    refine ⟨w, vs, A1, C1 ++ B' ++ C3, rfl, by simp, Rp.mono x d0 w A1 (fun a ha o e n => hp a (.inl (List.mem_append_left _ ha)) o e n) h1, up F' H' d' B' x (fun a ha o e n => hp a (ha.imp_left fun z => List.mem_append_right _ z) o e n) r'⟩
/-- the list at place n of slot i's list or tuple -/
def nstD (d : D) (n : Nat) : Option (List D × (List D → D)) := match d with
  | .tup xs => match xs[n]? with
    | some (.lst true ys) => some (ys, fun zs => .tup (xs.set n (.lst true zs)))
    | _ => none
  | .lst true xs => match xs[n]? with
    | some (.lst true ys) => some (ys, fun zs => .lst true (xs.set n (.lst true zs)))
    | _ => none
  | _ => none
def lenD (d : D) : Nat := match d with
  | .tup xs => xs.length
  | .lst _ xs => xs.length
  | _ => 0
theorem Stt.nst {F H : Hp} {σ : L2.St} {ρ : Env} {fp : Nat → List Addr} {i n : Nat} {d : D} {ys : List D} {up : List D → D} (s : Stt E F H σ ρ) (sl : Sl E F H σ ρ fp) (e : ρ[i]? = some (some d)) (en : nstD d n = some (ys, up)) :
    ∃ a vs l ws B, σ[i]? = some (some (.ref a)) ∧ (SqL E.k.K H a vs ∨ SqT E.k.K H a vs) ∧ vs.length = lenD d ∧ vs[n]? = some (.ref l) ∧ H l = some (.lst ws) ∧ RpL E.k F H ys ws B ∧ (∀ a ∈ B, a ∈ fp i) ∧ B.Nodup ∧
      ∀ F' H', Tr F H F' H' → ∀ ys' ws' C, RpL E.k F' H' ys' ws' C → C.Nodup → (∀ a ∈ C, a ∈ B ∨ (E.He a = none ∧ ∀ j, a ∉ fp j)) → Stt E F' (upd H' l (.lst ws')) σ (ρ.set i (some (up ys'))) := by
  obtain ⟨v, ev, r⟩ := sl.rp i _ e
  have ndi := sl.nd i
  -- the core, for what stands around
  have core : ∀ (xs : List D) (vs : List V) (A P : List Addr), fp i = P ++ A → RpL E.k F H xs vs A → xs[n]? = some (.lst true ys) →
      ∃ l ws B, vs[n]? = some (.ref l) ∧ H l = some (.lst ws) ∧ RpL E.k F H ys ws B ∧ (∀ a ∈ B, a ∈ fp i) ∧ B.Nodup ∧ l ∈ fp i ∧ l ∉ P ∧
        ∀ F' H', Tr F H F' H' → ∀ ys' ws' C, RpL E.k F' H' ys' ws' C → C.Nodup → (∀ a ∈ C, a ∈ B ∨ (E.He a = none ∧ ∀ j, a ∉ fp j)) →
          ∃ A', RpL E.k F' (upd H' l (.lst ws')) (xs.set n (.lst true ys')) vs A' ∧ (P ++ A').Nodup ∧ ∀ a ∈ P ++ A', a ∈ fp i ∨ (E.He a = none ∧ ∀ j, a ∉ fp j) := by
    intro xs vs A P eA rl ex
    obtain ⟨v, A1, B0, A3, g1, rfl, g3, g4⟩ := rl.nth ex
    obtain ⟨l, ws, B, rfl, rfl, fl, hl, rB⟩ := lstO g3
    rw [eA] at ndi
    have n1 := List.nodup_append.mp ndi
    have n2 := List.nodup_append.mp n1.2.1
    have n3 := List.nodup_append.mp n2.1
    have n4 := List.nodup_cons.mp n3.2.1
    have lfp : l ∈ fp i := by rw [eA]; simp
    have Bfp : ∀ a ∈ B, a ∈ fp i := fun a ha => by rw [eA]; simp [ha]
    refine ⟨l, ws, B, g1, hl, rB, Bfp, n4.2, lfp, fun z => n1.2.2 l z l (by simp) rfl, fun F' H' t ys' ws' C rC nC uC => ?_⟩
    have lC : l ∉ C := fun z => (uC l z).elim n4.1 fun h => h.2 i lfp
    have notC : ∀ a, a ∈ fp i → a ∉ B → a ∉ C := fun a ha hb z => (uC a z).elim hb fun h => h.2 i ha
    refine ⟨A1 ++ (l :: C) ++ A3, g4 F' (upd H' l (.lst ws')) (.lst true ys') (l :: C) t.ff (fun a ha o e n => ?_) ⟨l, ws', C, rfl, rC.upd lC, (fun z => nomatch z), fun _ => ⟨rfl, t.no l fl (by rw [hl]; exact fun z => nomatch z), upd_same⟩⟩, ?_, fun a ha => ?_⟩
    · rw [upd_ne fun z => ?_]
      · exact ⟨t.hh a o e, t.no a n (by rw [e]; exact fun z => nomatch z)⟩
      · subst z
        rcases ha with ha | ha
        · exact n3.2.2 a ha a List.mem_cons_self rfl
        · exact n2.2.2 a (by simp) a ha rfl
    · have fpm : ∀ a, a ∈ P ∨ a ∈ A1 ∨ a ∈ A3 → a ∈ fp i := fun a ha => by rw [eA]; rcases ha with h | h | h <;> simp [h]
      have nB : ∀ a, a ∈ P ∨ a ∈ A1 ∨ a ∈ A3 → a ∉ l :: B := fun a ha hb => by
        rcases ha with h | h | h
        · exact n1.2.2 a h a (by rcases List.mem_cons.mp hb with z | z <;> simp [z]) rfl
        · exact n3.2.2 a h a hb rfl
        · exact n2.2.2 a (List.mem_append_right _ hb) a h rfl
      have nlC : ∀ a, a ∈ P ∨ a ∈ A1 ∨ a ∈ A3 → a ∉ l :: C := fun a ha hb => by
        rcases List.mem_cons.mp hb with z | z
        · exact nB a ha (by rw [z]; exact List.mem_cons_self)
        · exact notC a (fpm a ha) (fun y => nB a ha (List.mem_cons_of_mem _ y)) z
      refine List.nodup_append.mpr ⟨n1.1, List.nodup_append.mpr ⟨List.nodup_append.mpr ⟨n3.1, List.nodup_cons.mpr ⟨lC, nC⟩, fun a ha b hb z => ?_⟩, n2.2.1, fun a ha b hb z => ?_⟩, fun a ha b hb z => ?_⟩
      · subst z; exact nlC a (.inr (.inl ha)) hb
      · subst z
        rcases List.mem_append.mp ha with ha | ha
        · exact n2.2.2 a (List.mem_append_left _ ha) a hb rfl
        · exact nlC a (.inr (.inr hb)) ha
      · subst z
        rcases List.mem_append.mp hb with hb | hb
        · rcases List.mem_append.mp hb with hb | hb
          · exact n1.2.2 a ha a (by simp [hb]) rfl
          · exact nlC a (.inl ha) hb
        · exact n1.2.2 a ha a (by simp [hb]) rfl
    · rcases List.mem_append.mp ha with ha | ha
      · exact .inl (by rw [eA]; simp [ha])
      · rcases List.mem_append.mp ha with ha | ha
        · rcases List.mem_append.mp ha with ha | ha
          · exact .inl (by rw [eA]; simp [ha])
          · rcases List.mem_cons.mp ha with rfl | ha
            · exact .inl lfp
            · exact (uC a ha).imp_left fun h => Bfp a h
        · exact .inl (by rw [eA]; simp [ha])
  cases d with
  | tup xs =>
    obtain ⟨a, vs, rfl, sq, rl⟩ := r
    have en : (match xs[n]? with
      | some (.lst true ys) => some (ys, fun zs => D.tup (xs.set n (.lst true zs)))
      | _ => none) = some (ys, up) := en
    split at en
    · rename_i ys0 ex
      cases en
      obtain ⟨l, ws, B, h1, h2, h3, h4, h5, h6, h7, h8⟩ := core xs vs (fp i) [] rfl rl ex
      refine ⟨a, vs, l, ws, B, ev, .inr (ex_t s.fh sq), rl.len.symm, h1, h2, h3, h4, h5, fun F' H' t ys' ws' C rC nC uC => ?_⟩
      obtain ⟨A', k1, k2, k3⟩ := h8 F' H' t ys' ws' C rC nC uC
      exact (s.tr t).write (sl.tr t) (v := .ref a) (A' := A') h6 ev ⟨a, vs, rfl, ex_t t.ff sq, k1⟩ k2 k3
    · cases en
  | lst o xs =>
    cases o with
    | false => cases en
    | true =>
      obtain ⟨a, vs, A, rfl, eA, fa, ha, rl⟩ := lstO r
      have en : (match xs[n]? with
        | some (.lst true ys) => some (ys, fun zs => D.lst true (xs.set n (.lst true zs)))
        | _ => none) = some (ys, up) := en
      split at en
      · rename_i ys0 ex
        cases en
        obtain ⟨l, ws, B, h1, h2, h3, h4, h5, h6, h7, h8⟩ := core xs vs A [a] eA rl ex
        refine ⟨a, vs, l, ws, B, ev, .inl (.inl (.inl ha)), rl.len.symm, h1, h2, h3, h4, h5, fun F' H' t ys' ws' C rC nC uC => ?_⟩
        obtain ⟨A', k1, k2, k3⟩ := h8 F' H' t ys' ws' C rC nC uC
        have na : a ≠ l := fun z => h7 (by rw [z]; exact List.mem_singleton_self _)
        exact (s.tr t).write (sl.tr t) (v := .ref a) (A' := a :: A') h6 ev ⟨a, vs, A', rfl, k1, (fun z => nomatch z), fun _ => ⟨rfl, t.no a fa (by rw [ha]; exact fun z => nomatch z), by rw [upd_ne na]; exact t.hh _ _ ha⟩⟩ k2 k3
      · cases en
  | _ => cases en
/-- slot i's element at j -/
def onN (i : Nat) (j : D) (ρ : Env) (k : List D → (List D → D) → SR) : SR := match ρ[i]?.getD none with
  | some d => match j with
    | .int j => match L2.ixN (lenD d) j with
      | some n => match nstD d n with
        | some (ys, up) => k ys up
        | none => .no
      | none => .no
    | _ => .no
  | _ => .no
theorem onN_of {F : Hp} {Z : Ends} {i : Nat} {j : D} {ρ : Env} {k : List D → (List D → D) → SR} (h : SRes E W F Z (onN i j ρ k)) : ∃ d j' n ys up, ρ[i]? = some (some d) ∧ j = .int j' ∧ L2.ixN (lenD d) j' = some n ∧ nstD d n = some (ys, up) ∧ SRes E W F Z (k ys up) := by
  unfold onN at h
  split at h
  · rename_i d e
    split at h
    · rename_i j'
      split at h
      · rename_i n en
        split at h
        · rename_i ys up eu
          exact ⟨d, j', n, ys, up, some_some e, rfl, en, eu, h⟩
        · exact h.elim
      · exact h.elim
    · exact h.elim
  · exact h.elim
theorem atI_of {vs : List V} {j : Int} {n m : Nat} {v : V} (hl : vs.length = m) (e : L2.ixN m j = some n) (h : vs[n]? = some v) : atI vs j = some v := by
  unfold atI
  rw [hl, e]
  exact h
/-- name[j].append(e) -/
def nApp (i : Nat) (fi f : Env → R D) : Env → SR := fun ρ => match ρ[i]?.getD none with
  | none => .no
  | some _ => (fi ρ).st ρ fun j => onN i j ρ fun ys up => (f ρ).st ρ fun d => if ys.length < 16777216 then .nx (ρ.set i (some (up (ys ++ [d])))) else .no
theorem nApp_eq (i : Nat) (fi f : Env → R D) (ρ : Env) : nApp i fi f ρ = match ρ[i]?.getD none with
  | none => .no
  | some _ => (fi ρ).st ρ fun j => onN i j ρ fun ys up => (f ρ).st ρ fun d => if ys.length < 16777216 then .nx (ρ.set i (some (up (ys ++ [d])))) else .no := rfl
theorem slot_of {F : Hp} {Z : Ends} {i : Nat} {ρ : Env} {k : SR} (h : SRes E W F Z (match ρ[i]?.getD none with
  | none => .no
  | some _ => k)) : ∃ d, ρ[i]? = some (some d) ∧ SRes E W F Z k := by
  split at h
  · exact h.elim
  · rename_i d e
    exact ⟨d, some_some e, h⟩
theorem ty_ref {k : Kx} {K : PySem.W.Frag} {H : Hp} {l : Addr} {ws : List V} (h : H l = some (.lst ws)) : tyV K "list" (.ref l) H := .inl ⟨rfl, ws, .inl (.inl h)⟩
theorem ss_nApp {i : Nat} {o ix e : Expr} {fi f : Env → R D} {sp apos cpos pos : Pos} (hK : E.k.K = X.K) (ho : PE X o (tVar i)) (hx : EV X E W ix fi) (h : EO X E W e f) (hpl : PlainIx ix := by exact fun _ _ => rfl) (hs : swapsWith (.Call (.Attribute (.Subscript o ix sp) "append" apos) [e] [] cpos) none pos.line X.env = pure false := by rfl)
    (hbase : attributeBase (.Subscript o ix sp) "append" X.env (eval (.Subscript o ix sp) X.env) = eval (.Subscript o ix sp) X.env := by rfl)
    (hfew : ((backTo cpos (starEach [e] X.env)).all (fun x => !x.1) && (backToKw cpos (keywordEach [] X.env)).all (fun x => x.1.isSome)
      && decide ([e].length + ([] : List Keyword).length + (if ([] : List Keyword).isEmpty then 0 else 1) < 30)) = true := by rfl)
    (hline : (apos.endLine == cpos.line) = true := by rfl) (hst : starEach [e] X.env = (false, eval e X.env) :: starEach [] X.env := by rfl) (hplain : (backTo cpos (starEach [] X.env)).any (·.1) = false := by rfl) :
    SS X E W (.Expr (.Call (.Attribute (.Subscript o ix sp) "append" apos) [e] [] cpos) pos) (nApp i fi f) := by
  refine ⟨ps_mono (ps_expr (pe_bm PySem.F.plainAttrs_list PySem.F.slot_list_append PySem.F.type_list_append mt_append (pe_ix ix_seq ho hx.pe hpl) (pa_cons h.pe pa_nil hst) hbase hfew hline hst hplain) hs) fun Z σ H h => ?_⟩
  obtain ⟨F, ρ, s, q⟩ := h
  obtain ⟨d0, e0, q⟩ := slot_of q
  obtain ⟨fp, sl⟩ := s.sl
  obtain ⟨v0, ev0, r0⟩ := sl.rp i _ e0
  refine ⟨v0, ev0, F, ρ, s, Res.mono q.st (fun j _ q F1 H1 w A t1 r1 => ?_) fun c _ z => SRes.exc s z⟩
  obtain ⟨d, j', n, ys, up, e1, rfl, en, eu, q⟩ := onN_of q
  rw [e0] at e1
  cases e1
  obtain ⟨a, vs, l, ws, B, h1, h2, h3, h4, h5, h6, h7, h8, h9⟩ := (s.tr t1).nst (sl.tr t1) e0 eu
  rw [ev0] at h1
  cases h1
  have core : tyV E.k.K "list" (.ref l) H1 ∧ tCons (tO E W f) tNil σ H1 fun xs H2 => rAppend (.ref l) xs H2 fun _ H3 => Z.nx σ H3 := by
    refine ⟨ty_ref (k := E.k) h5, F1, ρ, s.tr t1, Res.mono q.st (fun y _ q F2 H2 u C t2 r2 nd un => ?_) fun c _ z F' H' t => SRes.exc s z F' H' (t1.trans t)⟩
    by_cases hz : ys.length < 16777216
    · rw [if_pos hz] at q
      have t12 := t1.trans t2
      have new : ∀ a ∈ C, E.He a = none ∧ ∀ j, a ∉ fp j := fun a ha => (s.tr t1).fresh (sl.tr t1) (un a ha)
      have rl := h6.tr t2
      refine ⟨l, ws, u, rfl, rfl, t2.hh _ _ h5, Nat.lt_of_lt_of_eq (by rw [← rl.len]; exact hz) sizeLine_eq.symm, q F2 _ σ t12.ff (h9 F2 H2 t2 (ys ++ [y]) (ws ++ [u]) (B ++ C) (rl.append (RpL.one r2)) ?_ fun a ha => ?_)⟩
      · refine List.nodup_append.mpr ⟨h8, nd, fun a ha b hb z => ?_⟩
        subst z
        exact (new a hb).2 i (h7 a ha)
      · rcases List.mem_append.mp ha with ha | ha
        · exact .inl ha
        · exact .inr (new a ha)
    · rw [if_neg hz] at q
      exact q.elim
  rw [← hK]
  rcases h2 with h2 | h2
  · exact .inl ⟨a, vs, j', _, rfl, r1.1, h2, atI_of h3 en h4, core⟩
  · exact .inr (.inl ⟨a, vs, j', _, rfl, r1.1, h2, atI_of h3 en h4, core⟩)
/-- name[j].extend(e) -/
def nExt (i : Nat) (fi f : Env → R D) : Env → SR := fun ρ => match ρ[i]?.getD none with
  | none => .no
  | some _ => (fi ρ).st ρ fun j => onN i j ρ fun ys up => (f ρ).st ρ fun d => match lstD d with
    | some zs => if ys.length + zs.length ≤ 16777216 then .nx (ρ.set i (some (up (ys ++ zs)))) else .no
    | none => .no
theorem nExt_eq (i : Nat) (fi f : Env → R D) (ρ : Env) : nExt i fi f ρ = match ρ[i]?.getD none with
  | none => .no
  | some _ => (fi ρ).st ρ fun j => onN i j ρ fun ys up => (f ρ).st ρ fun d => match lstD d with
    | some zs => if ys.length + zs.length ≤ 16777216 then .nx (ρ.set i (some (up (ys ++ zs)))) else .no
    | none => .no := rfl
theorem ss_nExt {i : Nat} {o ix e : Expr} {fi f : Env → R D} {sp apos cpos pos : Pos} (hK : E.k.K = X.K) (ho : PE X o (tVar i)) (hx : EV X E W ix fi) (h : EV X E W e f) (hpl : PlainIx ix := by exact fun _ _ => rfl) (hs : swapsWith (.Call (.Attribute (.Subscript o ix sp) "extend" apos) [e] [] cpos) none pos.line X.env = pure false := by rfl)
    (hbase : attributeBase (.Subscript o ix sp) "extend" X.env (eval (.Subscript o ix sp) X.env) = eval (.Subscript o ix sp) X.env := by rfl)
    (hfew : ((backTo cpos (starEach [e] X.env)).all (fun x => !x.1) && (backToKw cpos (keywordEach [] X.env)).all (fun x => x.1.isSome)
      && decide ([e].length + ([] : List Keyword).length + (if ([] : List Keyword).isEmpty then 0 else 1) < 30)) = true := by rfl)
    (hline : (apos.endLine == cpos.line) = true := by rfl) (hst : starEach [e] X.env = (false, eval e X.env) :: starEach [] X.env := by rfl) (hplain : (backTo cpos (starEach [] X.env)).any (·.1) = false := by rfl) :
    SS X E W (.Expr (.Call (.Attribute (.Subscript o ix sp) "extend" apos) [e] [] cpos) pos) (nExt i fi f) := by
  refine ⟨ps_mono (ps_expr (pe_bm PySem.F.plainAttrs_list PySem.F.slot_list_extend PySem.F.type_list_extend mt_extend (pe_ix ix_seq ho hx.pe hpl) (pa_cons h.pe pa_nil hst) hbase hfew hline hst hplain) hs) fun Z σ H h => ?_⟩
  obtain ⟨F, ρ, s, q⟩ := h
  obtain ⟨d0, e0, q⟩ := slot_of q
  obtain ⟨fp, sl⟩ := s.sl
  obtain ⟨v0, ev0, r0⟩ := sl.rp i _ e0
  refine ⟨v0, ev0, F, ρ, s, Res.mono q.st (fun j _ q F1 H1 w A t1 r1 => ?_) fun c _ z => SRes.exc s z⟩
  obtain ⟨d, j', n, ys, up, e1, rfl, en, eu, q⟩ := onN_of q
  rw [e0] at e1
  cases e1
  obtain ⟨a, vs, l, ws, B, h1, h2, h3, h4, h5, h6, h7, h8, h9⟩ := (s.tr t1).nst (sl.tr t1) e0 eu
  rw [ev0] at h1
  cases h1
  have core : tyV E.k.K "list" (.ref l) H1 ∧ tCons (tV E W f) tNil σ H1 fun xs H2 => rExtend (.ref l) xs H2 fun _ H3 => Z.nx σ H3 := by
    refine ⟨ty_ref (k := E.k) h5, F1, ρ, s.tr t1, Res.mono q.st (fun y _ q F2 H2 u C t2 r2 => ?_) fun c _ z F' H' t => SRes.exc s z F' H' (t1.trans t)⟩
    cases ed : lstD y with
    | none => rw [ed] at q; exact q.elim
    | some zs =>
      rw [ed] at q
      have q : SRes E W F Z (if ys.length + zs.length ≤ 16777216 then .nx (ρ.set i (some (up (ys ++ zs)))) else .no) := q
      by_cases hz : ys.length + zs.length ≤ 16777216
      · rw [if_pos hz] at q
        cases y with
        | lst o zs' =>
          obtain ⟨p, e2⟩ := if_some (show (if D.pureL zs' = true then some zs' else none) = some zs from ed)
          subst e2
          obtain ⟨b, us, C, rfl, hb, rw1⟩ := Rp.lstW t2.fh r2
          have rw0 : RpL E.k F2 H2 zs' us [] := RpL.pure p (.refl _) rw1
          have t12 := t1.trans t2
          have rl := h6.tr t2
          refine ⟨l, b, ws, us, rfl, rfl, t2.hh _ _ h5, hb, (by rw [sizeLine_eq, ← rl.len, ← rw0.len]; exact hz), q F2 _ σ t12.ff (h9 F2 H2 t2 (ys ++ zs') (ws ++ us) (B ++ []) (rl.append rw0) (by rw [List.append_nil]; exact h8) fun a ha => .inl (by rw [List.append_nil] at ha; exact ha))⟩
        | _ => cases ed
      · rw [if_neg hz] at q
        exact q.elim
  rw [← hK]
  rcases h2 with h2 | h2
  · exact .inl ⟨a, vs, j', _, rfl, r1.1, h2, atI_of h3 en h4, core⟩
  · exact .inr (.inl ⟨a, vs, j', _, rfl, r1.1, h2, atI_of h3 en h4, core⟩)
/-- name[j][k] = e -/
def nSet (i : Nat) (fi fk f : Env → R D) : Env → SR := fun ρ => (f ρ).st ρ fun d => match ρ[i]?.getD none with
  | none => .no
  | some _ => (fi ρ).st ρ fun j => onN i j ρ fun ys up => (fk ρ).st ρ fun x => match x with
    | .int x => match L2.ixN ys.length x with
      | some m => .nx (ρ.set i (some (up (ys.set m d))))
      | none => .no
    | _ => .no
theorem nSet_eq (i : Nat) (fi fk f : Env → R D) (ρ : Env) : nSet i fi fk f ρ = (f ρ).st ρ fun d => match ρ[i]?.getD none with
  | none => .no
  | some _ => (fi ρ).st ρ fun j => onN i j ρ fun ys up => (fk ρ).st ρ fun x => match x with
    | .int x => match L2.ixN ys.length x with
      | some m => .nx (ρ.set i (some (up (ys.set m d))))
      | none => .no
    | _ => .no := rfl
theorem ss_nSet {i : Nat} {o ix kx e : Expr} {fi fk f : Env → R D} {sp0 sp pos : Pos} (hK : E.k.K = X.K) (ho : PE X o (tVar i)) (hx : EV X E W ix fi) (hk : EV X E W kx fk) (h : EO X E W e f) (hpl : PlainIx ix := by exact fun _ _ => rfl)
    (ha : ∀ v, assign (.Subscript (.Subscript o ix sp0) kx sp) X.env v = (do
      let ov ← holding [v] (eval (.Subscript o ix sp0) X.env)
      let iv ← holding [v, ov] (eval kx X.env)
      standAt sp
      holding [v, ov, iv] (setItem ov iv v)
      release [v, ov, iv] []) := by intro _; rfl)
    (hs : swapsWithSole [.Subscript (.Subscript o ix sp0) kx sp] e pos.line X.env = pure false := by rfl) (hw : swappedStores [.Subscript (.Subscript o ix sp0) kx sp] e X.env = pure none := by rfl)
    (h1 : (assignEach [.Subscript (.Subscript o ix sp0) kx sp] X.env).map (·.2) = [assign (.Subscript (.Subscript o ix sp0) kx sp) X.env] := by rfl) :
    SS X E W (.Assign [.Subscript (.Subscript o ix sp0) kx sp] e pos) (nSet i fi fk f) := by
  refine ⟨ps_mono (ps_asg h.pe (pg_sub (pe_ix ix_seq ho hx.pe hpl) hk.pe set_list ha) hs hw h1) fun Z σ H h => ?_⟩
  obtain ⟨F, ρ, s, q⟩ := h
  refine ⟨F, ρ, s, Res.mono q.st (fun d _ q F0 H0 dv DA t0 r0 nd u => ?_) fun c _ z => SRes.exc s z⟩
  obtain ⟨d0, e0, q⟩ := slot_of q
  obtain ⟨fp, sl⟩ := s.sl
  obtain ⟨v0, ev0, _⟩ := sl.rp i _ e0
  refine ⟨v0, ev0, F0, ρ, s.tr t0, Res.mono q.st (fun j _ q F1 H1 w A t1 r1 => ?_) fun c _ z F' H' t => SRes.exc s z F' H' (t0.trans t)⟩
  obtain ⟨d1, j', n, ys, up, e1, rfl, en, eu, q⟩ := onN_of q
  rw [e0] at e1
  cases e1
  have t01 := t0.trans t1
  obtain ⟨a, vs, l, ws, B, h1, h2, h3, h4, h5, h6, h7, h8, h9⟩ := (s.tr t01).nst (sl.tr t01) e0 eu
  rw [ev0] at h1
  cases h1
  have core : tV E W fk σ H1 fun x H2 => rSetL (.ref l) x dv H2 fun H3 => Z.nx σ H3 := by
    refine ⟨F1, ρ, s.tr t01, Res.mono q.st (fun x _ q F2 H2 xv C t2 r2 => ?_) fun c _ z F' H' t => SRes.exc s z F' H' (t01.trans t)⟩
    cases x with
    | int x =>
      have q : SRes E W F Z (match L2.ixN ys.length x with
        | some m => .nx (ρ.set i (some (up (ys.set m d))))
        | none => .no) := q
      cases em : L2.ixN ys.length x with
      | none => rw [em] at q; exact q.elim
      | some m =>
        rw [em] at q
        have hm := (L2.ixN_seq em).2.1
        have t12 := t01.trans t2
        have rl := h6.tr t2
        obtain ⟨A1, A2, A3, eB, rn⟩ := rl.set (r0.tr (t1.trans t2)) hm
        have new : ∀ a ∈ DA, E.He a = none ∧ ∀ j, a ∉ fp j := fun a ha => s.fresh sl (u a ha)
        refine ⟨l, ws, x, m, rfl, r2.1, t2.hh _ _ h5, by rw [← rl.len]; exact em, q F2 _ σ t12.ff (h9 F2 H2 t2 _ _ _ rn ?_ fun a ha => ?_)⟩
        · rw [eB] at h8
          have n13 : (A1 ++ A3).Nodup := by
            have := List.nodup_append.mp h8
            have h12 := List.nodup_append.mp this.1
            exact List.nodup_append.mpr ⟨h12.1, this.2.1, fun a ha b hb => this.2.2 a (List.mem_append_left _ ha) b hb⟩
          have h13 := List.nodup_append.mp n13
          refine List.nodup_append.mpr ⟨List.nodup_append.mpr ⟨h13.1, nd, fun a ha b hb z => ?_⟩, h13.2.1, fun a ha b hb z => ?_⟩
          · subst z
            exact (new a hb).2 i (h7 a (by rw [eB]; simp [ha]))
          · rcases List.mem_append.mp ha with ha | ha
            · exact h13.2.2 a ha b hb z
            · subst z
              exact (new a ha).2 i (h7 a (by rw [eB]; simp [hb]))
        · rcases List.mem_append.mp ha with ha | ha
          · rcases List.mem_append.mp ha with ha | ha
            · exact .inl (by rw [eB]; simp [ha])
            · exact .inr (new a ha)
          · exact .inl (by rw [eB]; simp [ha])
    | _ => exact q.elim
  rw [← hK]
  rcases h2 with h2 | h2
  · exact .inl ⟨a, vs, j', _, rfl, r1.1, h2, atI_of h3 en h4, core⟩
  · exact .inr (.inl ⟨a, vs, j', _, rfl, r1.1, h2, atI_of h3 en h4, core⟩)
end
end Dv
end
section
set_option maxRecDepth 100000
set_option maxHeartbeats 1000000
namespace Dv
open PySem PySem.Spec PyProof.Rows L2

section
variable {X : Cx} {E : En} {W : WX}
theorem gIn_isbl (x y d : D) (e : gIn x y = some d) : ∃ b, d = .bl b := by
  unfold gIn at e
  cases z : inB x y with
  | none => rw [z] at e; cases e
  | some b => rw [z] at e; cases e; exact ⟨_, rfl⟩
theorem gNotIn_isbl (x y d : D) (e : gNotIn x y = some d) : ∃ b, d = .bl b := by
  unfold gNotIn at e
  cases z : inB x y with
  | none => rw [z] at e; cases e
  | some b => rw [z] at e; cases e; exact ⟨_, rfl⟩
section
variable {a b : Expr} {fa fb : Env → R D} {pos : Pos}
theorem et_in (hK : E.k.K = X.K) (hu : X.A.units + 65 < cLine) (ha : EV X E W a fa) (hb : EV X E W b fb) (hm : behindInMarks .In b = false := by rfl) : ET X E W (.Compare a [.In] [b] pos) (eT (e2 gIn fa fb)) := et_cmp (op_inA hu) (by rw [← hK]; exact says_in) gIn_isbl hm ha hb
theorem et_notIn (hK : E.k.K = X.K) (hu : X.A.units + 65 < cLine) (ha : EV X E W a fa) (hb : EV X E W b fb) (hm : behindInMarks .NotIn b = false := by rfl) : ET X E W (.Compare a [.NotIn] [b] pos) (eT (e2 gNotIn fa fb)) := et_cmp (op_notInA hu) (by rw [← hK]; exact says_notIn) gNotIn_isbl hm ha hb
end
/-! ### any, all of a list of bools -/
def dBls (bs : List Bool) : List D := bs.map .bl
def lBls : List D → Option (List Bool)
  | [] => some []
  | .bl x :: xs => (lBls xs).map fun r => x :: r
  | _ :: _ => none
@[simp] theorem lBls_nil : lBls [] = some [] := rfl
@[simp] theorem lBls_cons (x : Bool) (xs : List D) : lBls (.bl x :: xs) = (lBls xs).map fun r => x :: r := rfl
theorem lBls_some : ∀ {xs : List D} {bs : List Bool}, lBls xs = some bs → xs = dBls bs
  | [], ns, e => by cases e; rfl
  | .bl x :: xs, ns, e => by
    rw [lBls_cons] at e
    cases z : lBls xs with
    | none => rw [z] at e; cases e
    | some r =>
      rw [z] at e
      cases e
      rw [lBls_some z]; rfl
  | .non :: _, _, e => nomatch e
  | .int _ :: _, _, e => nomatch e
  | .str _ :: _, _, e => nomatch e
  | .tup _ :: _, _, e => nomatch e
  | .lst _ _ :: _, _, e => nomatch e
  | .scr _ :: _, _, e => nomatch e
  | .dic _ _ _ :: _, _, e => nomatch e
  | .dit _ _ _ :: _, _, e => nomatch e
  | .ins _ _ _ :: _, _, e => nomatch e
theorem lBls_map {α : Type} (f : α → Bool) : ∀ xs : List α, lBls (xs.map fun x => .bl (f x)) = some (xs.map f)
  | [] => rfl
  | x :: xs => by rw [List.map_cons, lBls_cons, lBls_map f xs]; rfl
theorem rp_bls {k : Kx} {F H : Hp} : ∀ {bs : List Bool} {vs : List V} {A : List Addr}, RpL k F H (dBls bs) vs A → vs = bs.map V.bl
  | [], vs, A, h => by rw [h.1]; rfl
  | n :: ns, vs, A, h => by
    obtain ⟨v, ws, B, C, rfl, rfl, h1, h2⟩ := h
    rw [rp_bls h2, h1.1]
    rfl
def blsD : D → Option (List Bool)
  | .lst _ xs => lBls xs
  | _ => none
@[simp] theorem blsD_lst (o : Bool) (xs : List D) : blsD (.lst o xs) = lBls xs := rfl
def gAny : List D → Option D
  | [x] => (blsD x).map fun bs => .bl (bs.any id)
  | _ => none
def gAll : List D → Option D
  | [x] => (blsD x).map fun bs => .bl (bs.all id)
  | _ => none
@[simp] theorem gAny_one (x : D) : gAny [x] = (blsD x).map fun bs => .bl (bs.any id) := rfl
@[simp] theorem gAll_one (x : D) : gAll [x] = (blsD x).map fun bs => .bl (bs.all id) := rfl
theorem bls_sq {F H : Hp} {d : D} {v : V} {A : List Addr} {bs : List Bool} (fh : Ex F H) (r : Rp E.k F H d v A) (e : blsD d = some bs) : ∃ a, v = .ref a ∧ SqL E.k.K H a (bs.map V.bl) := by
  cases d with
  | lst o xs =>
    obtain ⟨a, vs, B, rfl, s, r⟩ := Rp.lstW fh r
    have := lBls_some (show lBls xs = some bs from e)
    subst this
    rw [rp_bls r] at s
    exact ⟨a, rfl, .inl (.inl s)⟩
  | _ => cases e
theorem says_any : SaysC E (rAny E.k.K) gAny := by
  intro F H ds vs Q d fh r e g
  unfold gAny at e
  split at e
  · rename_i x
    cases ex : blsD x with
    | none => rw [ex] at e; cases e
    | some ns =>
      rw [ex] at e
      cases e
      obtain ⟨v, A, rfl, rr⟩ := r.one
      obtain ⟨a, rfl, s⟩ := bls_sq fh rr ex
      exact ⟨a, ns, rfl, s, g.scal fh fun _ _ => ⟨rfl, rfl⟩⟩
  · cases e
theorem says_all : SaysC E (rAll E.k.K) gAll := by
  intro F H ds vs Q d fh r e g
  unfold gAll at e
  split at e
  · rename_i x
    cases ex : blsD x with
    | none => rw [ex] at e; cases e
    | some ns =>
      rw [ex] at e
      cases e
      obtain ⟨v, A, rfl, rr⟩ := r.one
      obtain ⟨a, rfl, s⟩ := bls_sq fh rr ex
      exact ⟨a, ns, rfl, s, g.scal fh fun _ _ => ⟨rfl, rfl⟩⟩
  · cases e
def gStr : List D → Option D
  | [.int i] => if i.natAbs.log2 < 1920 then some (.str (toString i)) else none
  | _ => none
@[simp] theorem gStr_int (i : Int) : gStr [.int i] = if i.natAbs.log2 < 1920 then some (.str (toString i)) else none := rfl
theorem says_str : SaysC E (fun xs H Q => ∃ i, xs = [.int i] ∧ i.natAbs.log2 < 1920 ∧ Q (.str (toString i)) H) gStr := by
  intro F H ds vs Q d fh r e g
  unfold gStr at e
  split at e
  · obtain ⟨z, e⟩ := if_some e
    cases e
    obtain ⟨v, A, rfl, rr⟩ := r.one
    rw [rr.1]
    exact ⟨_, rfl, z, g.scal fh fun _ _ => ⟨rfl, rfl⟩⟩
  · cases e
end
end Dv
end
section
set_option maxRecDepth 100000
set_option maxHeartbeats 1000000
namespace Dv
open PySem PySem.Spec PyProof.Rows L2

/-! ### displays that own their items; names may be moved into them -/
def mNil : Env → R (List D) := fun _ => .ok []
def mV (f : Env → R D) (g : Env → R (List D)) : Env → R (List D) := fun ρ => (f ρ).bind fun x => if x.pure = true then (g ρ).bind fun xs => .ok (x :: xs) else .no
def mO (f : Env → R D) (g : Env → R (List D)) : Env → R (List D) := fun ρ => (f ρ).bind fun x => (g ρ).bind fun xs => .ok (x :: xs)
def mM (i : Nat) (g : Env → R (List D)) : Env → R (List D) := fun ρ => match ρ[i]?.getD none with
  | some d => (g ρ).bind fun xs => .ok (d :: xs)
  | none => .no
@[simp] theorem mNil_eq (ρ : Env) : mNil ρ = .ok [] := rfl
@[simp] theorem mV_eq (f : Env → R D) (g : Env → R (List D)) (ρ : Env) : mV f g ρ = (f ρ).bind fun x => if x.pure = true then (g ρ).bind fun xs => .ok (x :: xs) else .no := rfl
@[simp] theorem mO_eq (f : Env → R D) (g : Env → R (List D)) (ρ : Env) : mO f g ρ = (f ρ).bind fun x => (g ρ).bind fun xs => .ok (x :: xs) := rfl
@[simp] theorem mM_eq (i : Nat) (g : Env → R (List D)) (ρ : Env) : mM i g ρ = match ρ[i]?.getD none with
  | some d => (g ρ).bind fun xs => .ok (d :: xs)
  | none => .no := rfl
def tM (E : En) (W : WX) (f : Env → R (List D)) (mv : List Nat) : TA := fun σ H Q => ∃ F ρ fp, Stt E F H σ ρ ∧ Sl E F H σ ρ fp ∧
  Res (f ρ) (fun ds => ∀ F' H' vs A, Tr F H F' H' → RpL E.k F' H' ds vs A → A.Nodup → (∀ a ∈ A, H a = none ∨ ∃ i ∈ mv, a ∈ fp i) → Q vs H') (fun c => ∀ F' H', Tr F H F' H' → W (E.ec c) none σ H')
structure EM (X : Cx) (E : En) (W : WX) (es : List Expr) (f : Env → R (List D)) (mv : List Nat) : Prop where
  pa : PA X es (tM E W f mv)
section
variable {X : Cx} {E : En} {W : WX}
theorem em_nil : EM X E W [] mNil [] := ⟨pa_mono pa_nil fun σ H Q ⟨F, ρ, fp, s, sl, q⟩ => q F H [] [] (Tr.refl s.fh) ⟨rfl, rfl⟩ .nil fun _ z => nomatch z⟩
/-- what stands at the head is new, or a slot's -/
theorem em_step {F H F1 H1 : Hp} {σ : L2.St} {ρ : Env} {fp : Nat → List Addr} {g : Env → R (List D)} {mv hv : List Nat} {d : D} {v : V} {A : List Addr} {Q : List V → Hp → Prop} (s : Stt E F H σ ρ) (sl : Sl E F H σ ρ fp) (t1 : Tr F H F1 H1) (r1 : Rp E.k F1 H1 d v A) (nd : A.Nodup)
    (u : ∀ a ∈ A, H a = none ∨ ∃ i ∈ hv, a ∈ fp i) (dis : ∀ i ∈ hv, i ∉ mv)
    (q : Res ((g ρ).bind fun xs => R.ok (d :: xs)) (fun ds => ∀ F' H' vs A, Tr F H F' H' → RpL E.k F' H' ds vs A → A.Nodup → (∀ a ∈ A, H a = none ∨ ∃ i ∈ hv ++ mv, a ∈ fp i) → Q vs H') (fun c => ∀ F' H', Tr F H F' H' → W (E.ec c) none σ H')) :
    tM E W g mv σ H1 fun xs H2 => Q (v :: xs) H2 := by
  refine ⟨F1, ρ, fp, s.tr t1, sl.tr t1, Res.mono q.bind (fun xs _ q F2 H2 vs B t2 r2 nd2 u2 => ?_) fun c _ z F' H' t => z F' H' (t1.trans t)⟩
  have q : ∀ F' H' vs A, Tr F H F' H' → RpL E.k F' H' (d :: xs) vs A → A.Nodup → (∀ a ∈ A, H a = none ∨ ∃ i ∈ hv ++ mv, a ∈ fp i) → Q vs H' := q
  refine q F2 H2 (v :: vs) (A ++ B) (t1.trans t2) ⟨v, vs, A, B, rfl, rfl, r1.tr t2, r2⟩ (List.nodup_append.mpr ⟨nd, nd2, fun a ha b hb z => ?_⟩) fun a ha => ?_
  · subst z
    obtain ⟨_, o, h1, _⟩ := Rp.dom d v A r1 a ha
    rcases u2 a hb with h | ⟨j, hj, h⟩
    · rw [h] at h1; cases h1
    · rcases u a ha with h0 | ⟨i, hi, h0⟩
      · exact (sl.there h).2 h0
      · have := sl.dj i j a h0 h
        subst this
        exact dis i hi hj
  · rcases List.mem_append.mp ha with ha | ha
    · exact (u a ha).imp_right fun ⟨i, hi, h⟩ => ⟨i, List.mem_append_left _ hi, h⟩
    · rcases u2 a ha with h | ⟨j, hj, h⟩
      · exact .inl (none_back t1.hh h)
      · exact .inr ⟨j, List.mem_append_right _ hj, h⟩
theorem em_o {e : Expr} {es : List Expr} {f : Env → R D} {g : Env → R (List D)} {mv : List Nat} (h : EO X E W e f) (hr : EM X E W es g mv) (hs : starEach (e :: es) X.env = (false, eval e X.env) :: starEach es X.env := by rfl) : EM X E W (e :: es) (mO f g) mv := by
  refine ⟨pa_mono (pa_cons h.pe hr.pa hs) fun σ H Q ⟨F, ρ, fp, s, sl, q⟩ => ?_⟩
  refine ⟨F, ρ, s, Res.mono q.bind (fun d _ q F1 H1 v A t1 r1 nd u => ?_) fun c _ z F' H' t => z F' H' t⟩
  exact em_step (hv := []) s sl t1 r1 nd (fun a ha => .inl (u a ha)) (fun i z => nomatch z) q
theorem em_v {e : Expr} {es : List Expr} {f : Env → R D} {g : Env → R (List D)} {mv : List Nat} (h : EV X E W e f) (hr : EM X E W es g mv) (hs : starEach (e :: es) X.env = (false, eval e X.env) :: starEach es X.env := by rfl) : EM X E W (e :: es) (mV f g) mv := by
  refine ⟨pa_mono (pa_cons h.pe hr.pa hs) fun σ H Q ⟨F, ρ, fp, s, sl, q⟩ => ?_⟩
  refine ⟨F, ρ, s, Res.mono q.bind (fun d _ q F1 H1 v A t1 r1 => ?_) fun c _ z F' H' t => z F' H' t⟩
  by_cases p : d.pure = true
  · rw [if_pos p] at q
    have e := Rp.own_nil d v A p r1
    subst e
    exact em_step (hv := []) s sl t1 r1 .nil (fun a z => nomatch z) (fun i z => nomatch z) q
  · rw [if_neg p] at q; exact q.elim
theorem em_m {i : Nat} {e : Expr} {es : List Expr} {g : Env → R (List D)} {mv : List Nat} (hi : i ∉ mv) (h : PE X e (tVar i)) (hr : EM X E W es g mv) (hs : starEach (e :: es) X.env = (false, eval e X.env) :: starEach es X.env := by rfl) : EM X E W (e :: es) (mM i g) (i :: mv) := by
  refine ⟨pa_mono (pa_cons h hr.pa hs) fun σ H Q ⟨F, ρ, fp, s, sl, q⟩ => ?_⟩
  rw [mM_eq] at q
  split at q
  · rename_i d ed
    obtain ⟨v, ev, r⟩ := sl.rp i d (some_some ed)
    exact ⟨v, ev, em_step (hv := [i]) s sl (Tr.refl s.fh) r (sl.nd i) (fun a ha => .inr ⟨i, List.mem_singleton_self _, ha⟩) (fun j hj => by rw [List.mem_singleton.mp hj]; exact hi) q⟩
  · exact q.elim
/-- the display -/
def eTupM (fs : Env → R (List D)) : Env → R D := fun ρ => (fs ρ).bind fun ds => if ds.length ≤ 16777216 then .ok (.tup ds) else .no
def eLstM (fs : Env → R (List D)) : Env → R D := fun ρ => (fs ρ).bind fun ds => if ds.length ≤ 16777216 then .ok (.lst true ds) else .no
@[simp] theorem eTupM_eq (fs : Env → R (List D)) (ρ : Env) : eTupM fs ρ = (fs ρ).bind fun ds => if ds.length ≤ 16777216 then .ok (.tup ds) else .no := rfl
@[simp] theorem eLstM_eq (fs : Env → R (List D)) (ρ : Env) : eLstM fs ρ = (fs ρ).bind fun ds => if ds.length ≤ 16777216 then .ok (.lst true ds) else .no := rfl
theorem rp_newT {k : Kx} {F H : Hp} {ds : List D} {vs : List V} {A : List Addr} {p : Addr} (fh : Ex F H) (hp : H p = none) (r : RpL k F H ds vs A) : Tr F H (upd F p (.tup vs)) (upd H p (.tup vs)) ∧ Rp k (upd F p (.tup vs)) (upd H p (.tup vs)) (.tup ds) (.ref p) A :=
  ⟨tr_newF fh hp, p, vs, rfl, .inl (.inl upd_same), r.tr (tr_newF fh hp)⟩
theorem rp_newL {k : Kx} {F H : Hp} {ds : List D} {vs : List V} {A : List Addr} {p : Addr} (fh : Ex F H) (hp : H p = none) (r : RpL k F H ds vs A) : Tr F H F (upd H p (.lst vs)) ∧ Rp k F (upd H p (.lst vs)) (.lst true ds) (.ref p) (p :: A) := by
  have hf : F p = none := by
    cases q : F p with
    | none => rfl
    | some u => rw [fh p u q] at hp; cases hp
  exact ⟨tr_new fh hp, p, vs, A, rfl, r.tr (tr_new fh hp), (fun z => nomatch z), fun _ => ⟨rfl, hf, upd_same⟩⟩
theorem not_new {k : Kx} {F H : Hp} {ds : List D} {vs : List V} {A : List Addr} {p : Addr} (hp : H p = none) (r : RpL k F H ds vs A) : p ∉ A := fun z => by
  obtain ⟨_, o, h, _⟩ := RpL.dom ds vs A r p z
  rw [hp] at h; cases h
theorem eo_tupM {es : List Expr} {fs : Env → R (List D)} {x1 : Nat} {pos : Pos} (h : EM X E W es fs []) : EO X E W (.Tuple es x1 pos) (eTupM fs) := by
  refine ⟨pe_mono (pe_tup h.pa) fun σ H Q ⟨F, ρ, s, q⟩ => ?_⟩
  obtain ⟨fp, sl⟩ := s.sl
  refine ⟨F, ρ, fp, s, sl, Res.mono q.bind (fun ds _ q F1 H1 vs A t1 r1 nd u => ?_) fun c _ z F' H' t => z F' H' t⟩
  by_cases hz : ds.length ≤ 16777216
  · rw [if_pos hz] at q
    refine ⟨big_le (by rw [← r1.len]; exact hz), fun p hp => ?_⟩
    obtain ⟨t2, r2⟩ := rp_newT t1.fh hp r1
    exact q _ _ _ A (t1.trans t2) r2 nd fun a ha => (u a ha).elim (fun z => z) fun ⟨i, z, _⟩ => nomatch z
  · rw [if_neg hz] at q; exact q.elim
theorem eo_lstM {es : List Expr} {fs : Env → R (List D)} {pos : Pos} (h : EM X E W es fs []) : EO X E W (.List es pos) (eLstM fs) := by
  refine ⟨pe_mono (pe_lst h.pa) fun σ H Q ⟨F, ρ, s, q⟩ => ?_⟩
  obtain ⟨fp, sl⟩ := s.sl
  refine ⟨F, ρ, fp, s, sl, Res.mono q.bind (fun ds _ q F1 H1 vs A t1 r1 nd u => ?_) fun c _ z F' H' t => z F' H' t⟩
  by_cases hz : ds.length ≤ 16777216
  · rw [if_pos hz] at q
    refine ⟨big_le (by rw [← r1.len]; exact hz), fun p hp => ?_⟩
    obtain ⟨t2, r2⟩ := rp_newL t1.fh hp r1
    have u' : ∀ a ∈ A, H a = none := fun a ha => (u a ha).elim (fun z => z) fun ⟨i, z, _⟩ => nomatch z
    refine q _ _ _ (p :: A) (t1.trans t2) r2 (List.nodup_cons.mpr ⟨not_new hp r1, nd⟩) fun a ha => ?_
    rcases List.mem_cons.mp ha with rfl | ha
    · exact none_back t1.hh hp
    · exact u' a ha
  · rw [if_neg hz] at q; exact q.elim
/-- return (a, b, ..), names moved -/
theorem ss_retT {es : List Expr} {fs : Env → R (List D)} {mv : List Nat} {x1 : Nat} {p pos : Pos} (hb : ∀ i ∈ mv, i ∉ E.bs) (h : EM X E W es fs mv) : SS X E W (.Return (some (.Tuple es x1 p)) pos) (sRet (eTupM fs)) := by
  refine ⟨ps_mono (ps_ret (pe_tup h.pa)) fun Z σ H ⟨F, ρ, s, q⟩ => ?_⟩
  obtain ⟨fp, sl⟩ := s.sl
  refine ⟨F, ρ, fp, s, sl, Res.mono q.st.bind (fun ds _ q F1 H1 vs A t1 r1 nd u => ?_) fun c _ z => SRes.exc s z⟩
  by_cases hz : ds.length ≤ 16777216
  · rw [if_pos hz] at q
    refine ⟨big_le (by rw [← r1.len]; exact hz), fun p hp => ?_⟩
    obtain ⟨t2, r2⟩ := rp_newT t1.fh hp r1
    have s2 := s.tr (t1.trans t2)
    refine q _ _ σ _ s2 ⟨s2.e0, s2.fh, s2.fr, s2.st, s2.bt, A, r2, nd, fun a ha => ?_⟩
    rcases u a ha with h | ⟨i, hi, h⟩
    · exact s.new h
    · exact (sl.nw i a h).elim (fun z => z) fun z => absurd z.2 (hb i hi)
  · rw [if_neg hz] at q; exact q.elim
theorem ss_retL {es : List Expr} {fs : Env → R (List D)} {mv : List Nat} {p pos : Pos} (hb : ∀ i ∈ mv, i ∉ E.bs) (h : EM X E W es fs mv) : SS X E W (.Return (some (.List es p)) pos) (sRet (eLstM fs)) := by
  refine ⟨ps_mono (ps_ret (pe_lst h.pa)) fun Z σ H ⟨F, ρ, s, q⟩ => ?_⟩
  obtain ⟨fp, sl⟩ := s.sl
  refine ⟨F, ρ, fp, s, sl, Res.mono q.st.bind (fun ds _ q F1 H1 vs A t1 r1 nd u => ?_) fun c _ z => SRes.exc s z⟩
  by_cases hz : ds.length ≤ 16777216
  · rw [if_pos hz] at q
    refine ⟨big_le (by rw [← r1.len]; exact hz), fun p hp => ?_⟩
    obtain ⟨t2, r2⟩ := rp_newL t1.fh hp r1
    have s2 := s.tr (t1.trans t2)
    refine q _ _ σ _ s2 ⟨s2.e0, s2.fh, s2.fr, s2.st, s2.bt, p :: A, r2, List.nodup_cons.mpr ⟨not_new hp r1, nd⟩, fun a ha => ?_⟩
    rcases List.mem_cons.mp ha with rfl | ha
    · exact s.new (none_back t1.hh hp)
    · rcases u a ha with h | ⟨i, hi, h⟩
      · exact s.new h
      · exact (sl.nw i a h).elim (fun z => z) fun z => absurd z.2 (hb i hi)
  · rw [if_neg hz] at q; exact q.elim
/-- a, b = e, e's value its own: what it owns is frozen -/
def sUnO (g : D → Env → Option Env) (f : Env → R D) : Env → SR := fun ρ => (f ρ).st ρ fun d => if d.cold = true then (if d.frz.pure = true then (match g d.frz ρ with
  | some ρ' => .nx ρ'
  | none => .no) else .no) else .no
@[simp] theorem sUnO_eq (g : D → Env → Option Env) (f : Env → R D) (ρ : Env) : sUnO g f ρ = (f ρ).st ρ fun d => if d.cold = true then (if d.frz.pure = true then (match g d.frz ρ with
  | some ρ' => .nx ρ'
  | none => .no) else .no) else .no := rfl
theorem ss_unO {tg e : Expr} {f : Env → R D} {g : D → Env → Option Env} {pos : Pos} (h : EO X E W e f) (hg : EG X E tg g) (hs : swapsWithSole [tg] e pos.line X.env = pure false := by rfl) (hw : swappedStores [tg] e X.env = pure none := by rfl)
    (h1 : (assignEach [tg] X.env).map (·.2) = [assign tg X.env] := by rfl) : SS X E W (.Assign [tg] e pos) (sUnO g f) := by
  refine ⟨ps_mono (ps_asg h.pe hg.pg hs hw h1) fun Z σ H h => ?_⟩
  obtain ⟨F, ρ, s, q⟩ := h
  refine ⟨F, ρ, s, Res.mono q.st (fun d _ q F1 H1 v A t1 r1 nd u => ?_) fun c _ z => SRes.exc s z⟩
  by_cases c : d.cold = true
  · rw [if_pos c] at q
    by_cases p : d.frz.pure = true
    · rw [if_pos p] at q
      cases eg : g d.frz ρ with
      | none => rw [eg] at q; exact q.elim
      | some ρ' =>
        rw [eg] at q
        have n := fun a ha => (Rp.dom d v A r1 a ha).1
        have t2 := tr_fz t1 n u
        exact ⟨_, ρ, d.frz, s.tr t2, p, Rp.frz (H' := H1) n d v A c (fun _ z => z) r1, ρ', eg, fun σ' s' => q _ H1 σ' t2.ff s'⟩
    · rw [if_neg p] at q; exact q.elim
  · rw [if_neg c] at q; exact q.elim
end
end Dv
end
section
set_option maxRecDepth 100000
set_option maxHeartbeats 1000000
namespace Dv
open PySem PySem.Spec PyProof.Rows L2

section
variable {X : Cx} {E : En} {W : WX}
/-! ### what may be a text, a list or a tuple is walked -/
def iAny (K : PySem.W.Frag) (tl : TE) : TI := fun σ H P => tl σ H fun x H1 => ((∃ a xs, x = .ref a ∧ SqL K H1 a xs ∧ P (Itl K a) H1) ∨ ∃ a xs, x = .ref a ∧ SqT K H1 a xs ∧ P (Itt K a) H1) ∨ ∃ z, x = .str z ∧ P (Its z) H1
theorem pi_any {tg l : Expr} {tl : TE} (hl : PE X l tl) : PI X tg l (iAny X.K tl) := by
  refine ⟨fun pins s σ H P I h => thn (hl.run pins s σ H _ I h) ?_⟩
  rintro v s1 ⟨x, H1, I1, r1, (⟨a, xs, rfl, hq, q⟩ | ⟨a, xs, rfl, hq, q⟩) | ⟨z, rfl, q⟩⟩
  · cases r1
    obtain ⟨its, _, pl, _⟩ := I1.list hq
    exact wpAny_pyIter_list pl.isList (pi_one I1 _ (turn_list a _) ⟨_, Heap.get?_push_size _ rfl, rfl, rfl⟩ q)
  · cases r1
    obtain ⟨its, _, pl, _⟩ := I1.tuple hq
    exact wpAny_pyIter_tuple (show s1.heap.IsTuple a its.toArray from pl) (pi_one I1 _ (turn_tuple a _) ⟨_, Heap.get?_push_size _ rfl, rfl, rfl⟩ q)
  · obtain ⟨t, rfl⟩ := r1
    cases ha : z.cps.all (· < 128)
    · exact wpAny_pyIter_wide ha (pi_one (tk := s1.toks) I1 _ (turn_str _ z t "str_iterator" (.inr rfl)) ⟨_, Heap.get?_push_size _ rfl, rfl, rfl⟩ q)
    · exact wpAny_pyIter_ascii ha (pi_one (tk := s1.toks) I1 _ (turn_str _ z t "str_ascii_iterator" (.inl rfl)) ⟨_, Heap.get?_push_size _ rfl, rfl, rfl⟩ q)
def walkW : D → Option (List D)
  | .str x => some (x.cps.toList.map fun c => .str ⟨#[c]⟩)
  | d => walkD d
@[simp] theorem walkW_str (x : Str) : walkW (.str x) = some (x.cps.toList.map fun c => .str ⟨#[c]⟩) := rfl
@[simp] theorem walkW_lst (o : Bool) (xs : List D) : walkW (.lst o xs) = walkD (.lst o xs) := rfl
@[simp] theorem walkW_tup (xs : List D) : walkW (.tup xs) = walkD (.tup xs) := rfl
@[simp] theorem walkW_scr (xs : List D) : walkW (.scr xs) = walkD (.scr xs) := rfl
/-- looked at -/
def iW (f : Env → R D) : Env → R (List D) := fun ρ => (f ρ).bind fun d => R.opt (walkW d)
@[simp] theorem iW_eq (f : Env → R D) (ρ : Env) : iW f ρ = (f ρ).bind fun d => R.opt (walkW d) := rfl
theorem ei_w {tg e : Expr} {f : Env → R D} (hK : E.k.K = X.K) (h : EV X E W e f) : EI X E W tg e (iW f) := by
  refine ⟨pi_mono (pi_any h.pe) fun σ H P q => ?_⟩
  obtain ⟨F, ρ, s, q⟩ := q
  refine ⟨F, ρ, s, Res.mono q.bind (fun d _ q F1 H1 v A t1 r1 => ?_) fun c _ z F' H' t => z F' H' t⟩
  obtain ⟨ds, e, p⟩ := Res.opt q
  rw [← hK]
  cases d with
  | str x => cases e; exact .inr ⟨x, r1.1, p F1 H1 _ t1 wk_str⟩
  | _ => exact .inl (walk_seq t1 r1 e p)
end
end Dv
end
section
set_option maxRecDepth 100000
set_option maxHeartbeats 1000000
namespace Dv
open PySem PySem.Spec PyProof.Rows L2
variable {X : Cx} {E : En} {W : WX}
/-- an own value, frozen to be looked at -/
def eFz (f : Env → R D) : Env → R D := fun ρ => (f ρ).bind fun d => if d.cold = true then .ok d.frz else .no
@[simp] theorem eFz_eq (f : Env → R D) (ρ : Env) : eFz f ρ = (f ρ).bind fun d => if d.cold = true then .ok d.frz else .no := rfl
theorem EO.vz {e : Expr} {f : Env → R D} (h : EO X E W e f) : EV X E W e (eFz f) := by
  refine ⟨pe_mono h.pe fun σ H Q ⟨F, ρ, s, q⟩ => ⟨F, ρ, s, ?_⟩⟩
  refine Res.mono q.bind (fun d _ p F' H' v A t r n u => ?_) fun _ _ z => z
  by_cases c : d.cold = true
  · rw [if_pos c] at p
    have n' := fun a ha => (Rp.dom d v A r a ha).1
    exact p _ H' v [] (tr_fz t n' u) (Rp.frz (H' := H') n' d v A c (fun _ z => z) r)
  · rw [if_neg c] at p
    exact p.elim
end Dv
end
section
set_option maxRecDepth 100000
set_option maxHeartbeats 1000000
namespace L2
open PySem PySem.Spec PyProof.Rows
theorem flat_ints (ys : List Int) : (ys.map V.int).all flatV = true := by
  rw [List.all_map]
  exact List.all_eq_true.mpr fun _ _ => rfl
section
variable {X : Cx}
/-- t.index(i), the first place, among ints -/
theorem mt_tup_indexI : MtR X "tuple.index" (fun x xs H Q => ∃ p, ∃ ys : List Int, ∃ z j, x = .ref p ∧ xs = [.int z] ∧ SqT X.K H p (ys.map V.int) ∧ ys[j]? = some z ∧ (∀ m, m < j → ys[m]? ≠ some z) ∧ Q (.int (j : Nat)) H) := by
  intro pins s σ H x xs v us Q I rx rs h
  obtain ⟨p, ys, z, j, rfl, rfl, hq, hy, hno, q⟩ := h
  cases rx
  obtain ⟨u, rfl, t, rfl⟩ := vals1 rs
  obtain ⟨its, r, pl, hz⟩ := I.tuple hq
  obtain ⟨⟨cls, dd, dt, sl⟩, ho, hc, n, hd⟩ := pl
  simp only at hc hd
  subst hc
  subst hd
  have hl : its.toArray.size = ys.length := by rw [List.size_toArray, ← r.length, List.length_map]
  have hj : j < its.toArray.size := by rw [hl]; exact (List.getElem?_eq_some_iff.mp hy).1
  have at' : ∀ (m : Nat) (hm : m < its.toArray.size), ∃ y t', ys[m]? = some y ∧ its.toArray[m] = Value.int y t' := fun m hm => by
    have hm' : m < ys.length := by rw [← hl]; exact hm
    obtain ⟨w, hw, t', hw'⟩ := r.get (i := m) (x := .int ys[m]) (by simp [hm'])
    refine ⟨ys[m], t', List.getElem?_eq_getElem hm', ?_⟩
    have e := (List.getElem?_eq_some_iff.mp hw).2
    rw [← hw', ← e]
    simp
  refine call_meets PySem.F.slot_tuple_index ⟨_, ho, rfl⟩ PySem.F.entry_tuple_index (PySem.F.args_tuple_index_2 _ _) (TI.tuple_indexAt p its.toArray n dd sl (.int z t) (eqU (.int z)) j hj ?_ ?_)
    ⟨ho, fun w hw => mem_eqAt (x := .int z) ⟨t, rfl⟩ rfl r (flat_ints ys) w (by simpa using hw), ⟨.int (j : Nat), H, I.tok _, ⟨_, rfl⟩, q⟩⟩
  · obtain ⟨y, t', h1, h2⟩ := at' j hj
    rw [hy] at h1
    cases h1
    rw [h2]
    show (z == z) = true
    exact beq_self_eq_true z
  · intro m hm hmj
    obtain ⟨y, t', h1, h2⟩ := at' m hm
    rw [h2]
    show (y == z) = false
    exact beq_eq_false_iff_ne.mpr fun e => hno m hmj (e ▸ h1)
end
end L2
namespace Dv
open PySem PySem.Spec PyProof.Rows L2
variable {X : Cx} {E : En} {W : WX}
/-- the first place of an equal one, in a tuple of ints or of texts -/
def idxD : D → D → Option Nat
  | .tup xs, .int i => (dInts? xs).bind fun ns => ns.findIdx? (· == i)
  | .tup xs, .str z => (txs xs).bind fun ss => ss.findIdx? (· == z)
  | _, _ => none
def eIdx (d : D) (f : Env → R D) : Env → R D := fun ρ => (f ρ).bind fun y => R.opt ((idxD d y).map fun (k : Nat) => D.int (k : Int))
@[simp] theorem eIdx_eq (d : D) (f : Env → R D) (ρ : Env) : eIdx d f ρ = (f ρ).bind fun y => R.opt ((idxD d y).map fun (k : Nat) => D.int (k : Int)) := rfl
/-- a module's tuple, as an object of its own -/
def GlobT (kx : Kx) (mg : Str → Option Value) (x : Str) : Prop := ∃ a o, mg x = some (.ref a) ∧ kx.K.lookup a = some o ∧ o.cls = .type "tuple" ∧ o.dict = none
def rTIx (K : PySem.W.Frag) : V → List V → Hp → VK → Prop := fun x xs H Q => (∃ p, ∃ ys : List Int, ∃ z j, x = .ref p ∧ xs = [.int z] ∧ SqT K H p (ys.map V.int) ∧ ys[j]? = some z ∧ (∀ m, m < j → ys[m]? ≠ some z) ∧ Q (.int (j : Nat)) H) ∨
  (∃ p, ∃ ys : List Str, ∃ z j, x = .ref p ∧ xs = [.str z] ∧ SqT K H p (ys.map V.str) ∧ ys[j]? = some z ∧ (∀ m, m < j → ys[m]? ≠ some z) ∧ Q (.int (j : Nat)) H)
theorem mt_tix : MtR X "tuple.index" (rTIx X.K) := mt_tup_indexI.or mt_tup_index
theorem find_at {α : Type} [BEq α] [LawfulBEq α] {xs : List α} {z : α} {j : Nat} (h : xs.findIdx? (· == z) = some j) : xs[j]? = some z ∧ ∀ m, m < j → xs[m]? ≠ some z := by
  obtain ⟨hj, h1, h2⟩ := List.findIdx?_eq_some_iff_getElem.mp h
  refine ⟨by rw [List.getElem?_eq_getElem hj, eq_of_beq h1], fun m hm e => ?_⟩
  obtain ⟨hm', e⟩ := List.getElem?_eq_some_iff.mp e
  exact h2 m hm (by rw [e]; exact beq_self_eq_true z)
theorem eo_gidx {x : Str} {d : D} {a : Expr} {fa : Env → R D} {p apos pos : Pos} (hK : E.k.K = X.K) (hg : Gl X x) (h : Glob E.k X.mg x d) (ht : GlobT E.k X.mg x) (ha : EV X E W a fa) (hd : (x == ("__debug__" : Str)) = false := by decide)
    (hbase : attributeBase (.Name x p) "index" X.env (eval (.Name x p) X.env) = eval (.Name x p) X.env := by rfl)
    (hfew : ((backTo pos (starEach [a] X.env)).all (fun x => !x.1) && (backToKw pos (keywordEach [] X.env)).all (fun x => x.1.isSome)
      && decide (([a] : List Expr).length + ([] : List Keyword).length + (if ([] : List Keyword).isEmpty then 0 else 1) < 30)) = true := by rfl)
    (hline : (apos.endLine == pos.line) = true := by rfl) (hs : starEach [a] X.env = (false, eval a X.env) :: starEach [] X.env := by rfl) (hplain : (backTo pos (starEach [] X.env)).any (·.1) = false := by rfl) :
    EO X E W (.Call (.Attribute (.Name x p) "index" apos) [a] [] pos) (eIdx d fa) := by
  obtain ⟨b, o, e1, e2, e3, e4⟩ := ht
  obtain ⟨u, v, h1, rv, rp⟩ := h
  rw [e1] at h1
  cases h1
  have hv : v = .ref b := by cases v <;> first | (cases rv; rfl) | (obtain ⟨_, z⟩ := rv; cases z) | cases rv
  subst hv
  refine ⟨pe_mono (pe_bm PySem.F.plainAttrs_tuple PySem.F.slot_tuple_index PySem.F.type_tuple_index mt_tix (pe_glob (v := .ref b) hg e1 rv hd) (pa_cons ha.pe pa_nil hs) hbase hfew hline hs hplain) fun σ H Q q => ?_⟩
  obtain ⟨F, ρ, s, q⟩ := q
  refine ⟨.inr (.inl ⟨rfl, o, by rw [← hK]; exact e2, e3, e4⟩), F, ρ, s, Res.mono q.bind (fun y _ q F2 H2 w B t2 r2 => ?_) fun c _ z F' H' t => z F' H' t⟩
  obtain ⟨d', e, p⟩ := Res.opt q
  obtain ⟨k, ek, e⟩ := Option.map_eq_some_iff.mp e
  subst e
  have g : Q (.int (k : Int)) H2 := p F2 H2 (.int (k : Int)) [] t2 ⟨rfl, rfl⟩ List.nodup_nil fun _ z => nomatch z
  show rTIx X.K (V.ref b) [w] H2 Q
  have rr := rp F2 H2
  rw [← hK]
  cases d with
  | tup xs =>
    obtain ⟨a', vs, ea, sq, rl⟩ := rr
    cases ea
    have sq := ex_t t2.fh sq
    cases y with
    | int i =>
      obtain ⟨ns, en, ei⟩ := Option.bind_eq_some_iff.mp (show (dInts? xs).bind (fun ns => ns.findIdx? (· == i)) = some k from ek)
      have := dIntsO_some en
      subst this
      rw [rp_ints rl] at sq
      obtain ⟨f1, f2⟩ := find_at ei
      exact .inl ⟨b, ns, i, k, rfl, by rw [r2.1], sq, f1, f2, g⟩
    | str z =>
      obtain ⟨ss, en, ei⟩ := Option.bind_eq_some_iff.mp (show (txs xs).bind (fun ss => ss.findIdx? (· == z)) = some k from ek)
      rw [txs_rp rl en] at sq
      obtain ⟨f1, f2⟩ := find_at ei
      exact .inr ⟨b, ss, z, k, rfl, by rw [r2.1], sq, f1, f2, g⟩
    | _ => cases ek
  | _ => cases ek
end Dv
end
section
set_option maxRecDepth 100000
set_option maxHeartbeats 1000000
namespace Dv
open PySem PySem.Spec PyProof.Rows L2
open Builtin Builtin.Str Builtin.Int Builtin.Float
def F16 : FormatSpec := { fill := 48, align := 61, width := some 16, type := some 120 }
def S16 : Str := ⟨#[48, 49, 54, 120]⟩
theorem parse16 (n : String) : parseFormatSpec S16.cps.toList n 62 = .ok F16 := by
  show parseFormatSpec [48, 49, 54, 120] n 62 = .ok F16
  rfl
def hexT (a : Int) : Str := intField' F16 false [] ((Nat.toDigits 16 a.natAbs).map fun c => (if (120 : Nat) == 88 then c.toUpper else c).toNat) [] 4
theorem wp_typeNameOfCut_int {prog : Program} {w : World} {A : Around} {E : Value → Shared → Prop} {s : Shared} {a : Int} {t : Tok} {Q : String → Shared → Prop} (h : Q "int" s) : wpAny (model prog w) A (typeNameOfCut 200 (.int a t)) Q E s := wpAny_typeNameOfCut_int h
theorem gives_hexF (a : Int) (t u : Tok) (f : FormatSpec) (sp : Str) (hne : (sp.length == 0) = false) (hasc : ((sp.cps.toList.drop 1).any (· ≥ 128) || (sp.cps.getD 0 0 ≥ 128 && !([60, 62, 61, 94] : List Nat).contains (sp.cps.getD 1 0))) = false)
    (hp : parseFormatSpec sp.cps.toList "int" 62 = .ok f) (hty : f.type.getD (if (sp.cps.back? == some 0) = true then 0 else 100) = 120) (hpr : f.precision = none) (hz : f.noNeg0 = false) (hal : f.alt = false) (hw : f.width.getD 0 ≤ 100000) (hf : f = F16) :
    Gives («int.__format__» ⟨[.int a t, .str sp u], []⟩) (.str (intField' f (decide (a < 0)) [] ((Nat.toDigits 16 a.natAbs).map fun c => (if (120 : Nat) == 88 then c.toUpper else c).toNat) [] 4)) := by
  intro prog w A R s hq
  unfold Builtin.«int.__format__»
  simp only [selfAndOne, noKeywords, Int.intOfSelf, asInt?, asStr?, List.isEmpty_nil, if_true, pure_bind, bind_pure, bind_assoc, Bool.false_eq_true, if_false, hne, hasc,
    show (Value.str sp u == Value.none) = false from rfl]
  refine wpAny_bind (wpAny_typeNameOf (T := "str") (typeIs_str _ _ _) (by decide) fun _ => ?_)
  refine wpAny_bind (wp_typeNameOfCut_int ?_)
  simp only [hp, hty]
  rw [if_pos (by decide)]
  show wpAny _ _ (if _ then _ else _) _ _ _
  rw [if_neg (by simp [hpr])]
  show wpAny _ _ (if _ then _ else _) _ _ _
  rw [if_neg (by simp [hz])]
  show wpAny _ _ (if _ then _ else _) _ _ _
  rw [if_neg (by decide)]
  show wpAny _ _ (if _ then _ else _) _ _ _
  rw [if_neg (by decide)]
  show wpAny _ _ (if _ then _ else _) _ _ _
  have hw' : ¬ (f.width.getD 0 > 100000) := by omega
  rw [if_neg (by simpa using hw')]
  show wpAny _ _ (retStr _) _ _ _
  have e : ∀ (Y : Str), Y = (intField' f (decide (a < 0)) [] ((Nat.toDigits 16 a.natAbs).map fun c => (if (120 : Nat) == 88 then c.toUpper else c).toNat) [] 4) → wpAny (model prog w) A.in1 (retStr Y) (fun fin s' =>
      match fin with
      | Fin.done f => R (Except.ok f) s'
      | Fin.again c' => c'.quiet = true ∧ codeAny (model prog w) A c' R s') (fun e s' => R (Except.error e) s') s := by
    rintro _ rfl
    exact wpAny_bind (wpAny_mkStr (wpAny_pure hq.2) hq.1)
  refine e _ ?_
  subst hf
  rfl
theorem gives_hex16 (a : Int) (t u : Tok) (h : 0 ≤ a) : Gives («int.__format__» ⟨[.int a t, .str S16 u], []⟩) (.str (hexT a)) := by
  have := gives_hexF a t u F16 S16 rfl (by decide) (parse16 _) rfl rfl rfl rfl (by decide) rfl
  rw [show decide (a < 0) = false from decide_eq_false (by omega)] at this
  exact this
/-! the digits -/
def hd : Nat → Nat → List Nat
  | 0, _ => []
  | k + 1, n => hd k (n / 16) ++ [(Nat.digitChar (n % 16)).toNat]
theorem hd_len : ∀ k n, (hd k n).length = k
  | 0, _ => rfl
  | k + 1, n => by rw [hd, List.length_append, hd_len k]; rfl
theorem hd_zero : ∀ k, hd k 0 = List.replicate k 48
  | 0 => rfl
  | k + 1 => by
    rw [hd, Nat.zero_div, hd_zero k, List.replicate_succ']
    rfl
theorem hd_dig : ∀ (k n : Nat), 1 ≤ k → n < 16 ^ k → List.replicate (k - (Nat.toDigits 16 n).length) 48 ++ (Nat.toDigits 16 n).map Char.toNat = hd k n
  | 0, _, h, _ => absurd h (by omega)
  | k + 1, n, _, h => by
    by_cases g : n < 16
    · rw [Nat.toDigits_of_lt_base g, hd, Nat.div_eq_of_lt g, hd_zero, Nat.mod_eq_of_lt g]
      simp
    · have h1 : n / 16 < 16 ^ k := by
        rw [Nat.pow_succ] at h
        exact Nat.div_lt_of_lt_mul (by rw [Nat.mul_comm]; exact h)
      have k1 : 1 ≤ k := by
        rcases Nat.eq_zero_or_pos k with z | z
        · subst z; simp at h; omega
        · exact z
      rw [Nat.toDigits_of_base_le (by decide) (by omega), hd, ← hd_dig k _ k1 h1, List.map_append, List.length_append]
      simp [Nat.add_sub_add_right]
theorem hexT_eq (n : Nat) (h : n < 18446744073709551616) : hexT (n : Int) = ⟨(hd 16 n).toArray⟩ := by
  have e := hd_dig 16 n (by decide) h
  rw [← e]
  have l : ((Nat.toDigits 16 n).map fun c => c.toNat).isEmpty = false := by
    have := Nat.length_toDigits_pos (b := 16) (n := n)
    cases q : Nat.toDigits 16 n with
    | nil => rw [q] at this; simp at this
    | cons _ _ => rfl
  unfold hexT F16 intField'
  simp [l]
  omega
theorem hd_inj16 : ∀ a : Nat, a < 16 → ∀ b : Nat, b < 16 → (Nat.digitChar a).toNat = (Nat.digitChar b).toNat → a = b := by decide +kernel
theorem hd_inj : ∀ (k n m : Nat), hd k n = hd k m → n % 16 ^ k = m % 16 ^ k
  | 0, n, m, _ => by simp [Nat.mod_one]
  | k + 1, n, m, h => by
    rw [hd, hd] at h
    obtain ⟨h1, h2⟩ := List.append_inj h (by rw [hd_len, hd_len])
    have a := hd_inj k _ _ h1
    have b := hd_inj16 (n % 16) (Nat.mod_lt _ (by decide)) (m % 16) (Nat.mod_lt _ (by decide)) (List.cons.inj h2).1
    rw [Nat.pow_succ, Nat.mul_comm, Nat.mod_mul, Nat.mod_mul, a, b]
theorem hexT_len (i : Int) (h0 : 0 ≤ i) (h : i < 18446744073709551616) : (hexT i).length = 16 := by
  obtain ⟨n, rfl⟩ := Int.eq_ofNat_of_zero_le h0
  rw [hexT_eq n (by omega)]
  show (hd 16 n).toArray.size = 16
  rw [List.size_toArray, hd_len]
theorem pe_hex {X : Cx} {e : Expr} {te : TE} {j : Nat} {p1 p2 p3 pos : Pos} (he : PE X e te) : PE X (.JoinedStr [.FormattedValue e (-1) (some (.JoinedStr [.Constant (.str (Str.ofString "016x")) j p1] p2)) p3] pos) (fun σ H Q => te σ H fun x H1 => ∃ i : Int, x = .int i ∧ 0 ≤ i ∧ i < 18446744073709551616 ∧ Q (.str (hexT i)) H1) := by
  refine ⟨fun pins s σ H Q I h => ?_⟩
  refine wpAny_JoinedStr_one (wpAny_FormattedValue_spec (thn (he.run pins s σ H _ I h) fun v s1 hv => ?_))
  obtain ⟨x, H1, I1, r1, i, rfl, h0, h2, q⟩ := hv
  obtain ⟨t, rfl⟩ := r1
  have hs := (pe_joined1 (pos := p2) (pe_str (X := X) (x := Str.ofString "016x") (j := j) (pos := p1))).run pins s1 σ H1 (fun y H2 => y = .str (Str.ofString "016x") ∧ H2 = H1) I1 ⟨rfl, rfl⟩
  refine thn hs fun r s2 hr => ?_
  obtain ⟨y, H2, I2, r2, rfl, rfl⟩ := hr
  obtain ⟨t2, rfl⟩ := r2
  have e16 : Str.ofString "016x" = S16 := by decide +kernel
  have hl := hexT_len i h0 h2
  refine ⟨Str.ofString "016x", t2, rfl, ?_⟩
  rw [e16]
  exact wpAny_formatField_spec (by rfl) (fun s' => typeIs_int s' i t) F.slot_int_format F.entry_int_format F.args_int_format_2 (fun u => gives_hex16 i t u h0) ⟨.str (hexT i), H2, I2.tok _, ⟨_, rfl⟩, q⟩ (by rw [sizeLine_eq]; decide) (by rw [hl, sizeLine_eq]; decide)
def gHex : D → Option D
  | .int i => if 0 ≤ i ∧ i < 18446744073709551616 then some (.str (hexT i)) else none
  | _ => none
@[simp] theorem gHex_int (i : Int) : gHex (.int i) = if 0 ≤ i ∧ i < 18446744073709551616 then some (.str (hexT i)) else none := rfl
/-- f'{e:016x}' -/
theorem eo_hex {X : Cx} {E : En} {W : WX} {e : Expr} {f : Env → R D} {j : Nat} {p1 p2 p3 pos : Pos} (h : EV X E W e f) : EO X E W (.JoinedStr [.FormattedValue e (-1) (some (.JoinedStr [.Constant (.str (Str.ofString "016x")) j p1] p2)) p3] pos) (e1 gHex f) := by
  refine ⟨pe_mono (pe_hex h.pe) fun σ H Q hh => ?_⟩
  obtain ⟨F, ρ, s, q⟩ := hh
  refine ⟨F, ρ, s, Res.mono q.bind (fun x _ q F1 H1 v A t1 r1 => ?_) fun c _ z F' H' t => z F' H' t⟩
  obtain ⟨d, e, p⟩ := q.opt
  cases x with
  | int i =>
    simp only [gHex_int] at e
    by_cases c : 0 ≤ i ∧ i < 18446744073709551616
    · rw [if_pos c] at e
      cases e
      exact ⟨i, r1.1, c.1, c.2, p F1 H1 _ [] t1 ⟨rfl, rfl⟩ .nil fun _ z => nomatch z⟩
    · rw [if_neg c] at e; cases e
  | _ => cases e
end Dv
end
set_option maxRecDepth 100000
set_option maxHeartbeats 4000000
namespace K71
open PySem PySem.Spec PyProof.Rows L2 Dv
noncomputable section
def top (i : Nat) : Stmt := PySem.Challenge.pw_stillroom_k71_sound_facts.main.body.getD i (.Pass ⟨0, 0, 0, 0⟩)
abbrev s__law_cell : Stmt := top 14
theorem sc__law_cell : FnScope ["_law_script", "_law_k"] ["_law_script", "_law_k"] (defScope s__law_cell) := ⟨rfl, rfl, rfl, by decide +kernel, rfl, by decide +kernel, by decide +kernel⟩
abbrev s__law_kinds : Stmt := top 18
theorem sc__law_kinds : FnScope [] [] (defScope s__law_kinds) := ⟨rfl, rfl, rfl, by decide +kernel, rfl, by decide +kernel, by decide +kernel⟩
abbrev s__law_row : Stmt := top 16
theorem sc__law_row : FnScope ["_law_cell_here", "_law_count", "_law_row_here", "_law_left", "_law_state", "_law_k"] ["_law_cell_here", "_law_count"] (defScope s__law_row) := ⟨rfl, rfl, rfl, by decide +kernel, rfl, by decide +kernel, by decide +kernel⟩
abbrev s__law_acts : Stmt := top 19
theorem sc__law_acts : FnScope [] [] (defScope s__law_acts) := ⟨rfl, rfl, rfl, by decide +kernel, rfl, by decide +kernel, by decide +kernel⟩
abbrev s__law_facts : Stmt := top 20
theorem sc__law_facts : FnScope ["_law_script", "_law_at", "_law_cell_here", "_law_kinds_here", "_law_kind", "_law_name", "_law_acts_here", "_law_size", "_law_byte"] ["_law_script", "_law_at"] (defScope s__law_facts) := ⟨rfl, rfl, rfl, by decide +kernel, rfl, by decide +kernel, by decide +kernel⟩
abbrev s__law_replaced : Stmt := top 21
theorem sc__law_replaced : FnScope ["_law_facts_here", "_law_cell_here", "_law_at", "_law_left", "_law_out", "_law_menu"] ["_law_facts_here", "_law_cell_here"] (defScope s__law_replaced) := ⟨rfl, rfl, rfl, by decide +kernel, rfl, by decide +kernel, by decide +kernel⟩
abbrev s_is_integer : Stmt := top 1
theorem sc_is_integer : FnScope ["value"] ["value"] (defScope s_is_integer) := ⟨rfl, rfl, rfl, by decide +kernel, rfl, by decide +kernel, by decide +kernel⟩
abbrev s_is_between : Stmt := top 2
theorem sc_is_between : FnScope ["value", "least", "most"] ["value", "least", "most"] (defScope s_is_between) := ⟨rfl, rfl, rfl, by decide +kernel, rfl, by decide +kernel, by decide +kernel⟩
abbrev s_are_words : Stmt := top 10
theorem sc_are_words : FnScope ["value", "words", "word"] ["value", "words"] (defScope s_are_words) := ⟨rfl, rfl, rfl, by decide +kernel, rfl, by decide +kernel, by decide +kernel⟩
abbrev s_is_kind : Stmt := top 11
theorem sc_is_kind : FnScope ["kind", "kinds", "places", "before", "behind", "word", "place"] ["kind", "kinds"] (defScope s_is_kind) := ⟨rfl, rfl, rfl, by decide +kernel, rfl, by decide +kernel, by decide +kernel⟩
abbrev s_is_sound : Stmt := top 12
theorem sc_is_sound : FnScope ["value", "name", "size", "kind", "kinds", "pages", "found", "deep", "byte"] ["value"] (defScope s_is_sound) := ⟨rfl, rfl, rfl, by decide +kernel, rfl, by decide +kernel, by decide +kernel⟩
abbrev s__law_words : Stmt := top 23
theorem sc__law_words : FnScope ["_law_value", "_law_words_here", "_law_word"] ["_law_value", "_law_words_here"] (defScope s__law_words) := ⟨rfl, rfl, rfl, by decide +kernel, rfl, by decide +kernel, by decide +kernel⟩
abbrev s__law_kind_fits : Stmt := top 24
theorem sc__law_kind_fits : FnScope ["_law_kind", "_law_kinds_here", "_law_single", "_law_due_here", "_law_word"] ["_law_kind", "_law_kinds_here"] (defScope s__law_kind_fits) := ⟨rfl, rfl, rfl, by decide +kernel, rfl, by decide +kernel, by decide +kernel⟩
abbrev s__law_is_integer : Stmt := top 15
theorem sc__law_is_integer : FnScope ["_law_actual"] ["_law_actual"] (defScope s__law_is_integer) := ⟨rfl, rfl, rfl, by decide +kernel, rfl, by decide +kernel, by decide +kernel⟩
abbrev s__law_number : Stmt := top 22
theorem sc__law_number : FnScope ["_law_value", "_law_most"] ["_law_value", "_law_most"] (defScope s__law_number) := ⟨rfl, rfl, rfl, by decide +kernel, rfl, by decide +kernel, by decide +kernel⟩
abbrev s__law_due : Stmt := top 25
theorem sc__law_due : FnScope ["_law_value", "_law_byte"] ["_law_value"] (defScope s__law_due) := ⟨rfl, rfl, rfl, by decide +kernel, rfl, by decide +kernel, by decide +kernel⟩
abbrev s_law : Stmt := top 26
theorem sc_law : FnScope ["_law_script", "_law_facts_here", "_law_values", "_law_value", "_law_found", "_law_k"] ["_law_script"] (defScope s_law) := ⟨rfl, rfl, rfl, by decide +kernel, rfl, by decide +kernel, by decide +kernel⟩
def c_ACTS : D := .tup [.str "open", .str "file", .str "link", .str "form", .str "fetch", .str "script"]
def c_KINDS : D := .tup [.str "still", .str "picture", .str "film", .str "sheet", .str "folio", .str "crate"]
def c_MOST_DEPTH : D := .int 4
def c_MOST_PAGES : D := .int 8
def c_MOST_SIZE : D := .int 2147483647
def c_SINGLE : D := .int 4
/-! ### what each def means -/
def b__law_cell : Dv.Env → SR := sq (sIf (eT (e2 gLt (eVar 1) (eB gLen (aV (eVar 0) (aNil))))) (sRet (eB gInt (aV (e2 gIx (eVar 0) (eVar 1)) (aNil)))) (sNil)) (sRet (eC (.int 0)))
def d__law_cell : List D → R D := fnD 2 2 b__law_cell
def b__law_kinds : Dv.Env → SR := sRet (eLstM (mO (eC (.str "still")) (mO (eC (.str "picture")) (mO (eC (.str "film")) (mO (eC (.str "sheet")) (mO (eC (.str "folio")) (mO (eC (.str "crate")) (mNil))))))))
def d__law_kinds : List D → R D := fnD 0 0 b__law_kinds
def lp__law_row_1 : Dv.Env → SR := sq (sApp 2 (e2 gAndB (eVar 3) (eC (.int 255)))) (sAsg 3 (e2 gShr (eVar 3) (eC (.int 8))))
def lp__law_row_2 : Dv.Env → SR := sq (sAsg 4 (e2 gMod (eB gInt (aV (e2 gMul (eVar 4) (eC (.int 48271))) (aNil))) (eC (.int 2147483647)))) (sApp 2 (e2 gAndB (e2 gAdd (e2 gDiv (eVar 4) (eC (.int 7))) (eVar 4)) (eC (.int 255))))
def b__law_row : Dv.Env → SR := sq (sAsg 2 (eLstM (mNil))) (sq (sAsg 3 (eB gAbs (aV (eVar 0) (aNil)))) (sq (sIf (eT (e2 gGe (eVar 3) (e2 gPow (eC (.int 10)) (eC (.int 18))))) (sq (sFor (iA rng1 (aV (eVar 1) (aNil))) (gNm 5) lp__law_row_1) (sRet (eVar 2))) (sNil)) (sq (sAsg 4 (e2 gAdd (e2 gMod (eB gInt (aV (eVar 3) (aNil))) (eC (.int 2147483629))) (eC (.int 1)))) (sq (sFor (iA rng1 (aV (eVar 1) (aNil))) (gNm 5) lp__law_row_2) (sRet (eVar 2))))))
def d__law_row : List D → R D := fnD 2 6 b__law_row
def b__law_acts : Dv.Env → SR := sRet (eLstM (mO (eC (.str "open")) (mO (eC (.str "file")) (mO (eC (.str "link")) (mO (eC (.str "form")) (mO (eC (.str "fetch")) (mO (eC (.str "script")) (mNil))))))))
def d__law_acts : List D → R D := fnD 0 0 b__law_acts
def b__law_facts : Dv.Env → SR := sq (sAsg 2 (eB gAbs (aV (eCall 2 d__law_cell (aV (eVar 0) (aV (eVar 1) (aNil)))) (aNil)))) (sq (sAsg 3 (eLstM (mNil))) (sq (sIf (eT (e2 gGt (e2 gMod (eB gInt (aV (eVar 2) (aNil))) (eC (.int 5))) (eC (.int 0)))) (sApp 3 (asOwn (e2 gIx (eCall 0 d__law_kinds aNil) (e2 gSub (e2 gMod (eB gInt (aV (eVar 2) (aNil))) (eC (.int 5))) (eC (.int 1)))))) (sNil)) (sq (sIf (eT (e2 gEq (e2 gAndB (eB gInt (aV (e2 gDiv (eVar 2) (eC (.int 5))) (aNil))) (eC (.int 1))) (eC (.int 1)))) (sApp 3 (eC (.str "folio"))) (sNil)) (sq (sIf (eT (e2 gEq (e2 gAndB (eB gInt (aV (e2 gDiv (eVar 2) (eC (.int 10))) (aNil))) (eC (.int 1))) (eC (.int 1)))) (sApp 3 (eC (.str "crate"))) (sNil)) (sq (sAsg 4 (eC (.str ""))) (sq (sIf (eT (e2 gGt (eB gLen (aV (eVar 3) (aNil))) (eC (.int 0)))) (sAsg 4 (asOwn (e2 gIx (eVar 3) (eC (.int 0))))) (sNil)) (sq (sIf (tAndF (eT (e2 gEq (eVar 3) (eLst (aO (eC (.str "folio")) (aO (eC (.str "crate")) (aNil)))))) (eT (e2 gEq (e2 gAndB (eB gInt (aV (e2 gDiv (eVar 2) (eC (.int 20))) (aNil))) (eC (.int 1))) (eC (.int 1))))) (sAsg 4 (eC (.str "crate"))) (sNil)) (sq (sAsg 5 (eB gTuple (aV (eLc (iO (eCall 2 d__law_row (aO (eCall 2 d__law_cell (aV (eVar 0) (aO (e2 gAdd (eVar 1) (eC (.int 1))) (aNil)))) (aO (e2 gMod (eB gInt (aV (e2 gDiv (eVar 2) (eC (.int 40))) (aNil))) (eC (.int 9))) (aNil))))) (gNm 8) (tYes) (asOwn (e2 gIx (eLst (aO (eC (.int 97)) (aO (eC (.int 98)) (aO (eC (.int 42)) (aO (eC (.int 46)) (aO (eC (.int 99)) (aNil))))))) (e2 gMod (eB gInt (aV (eVar 8) (aNil))) (eC (.int 5))))) [8]) (aNil)))) (sq (sAsg 6 (eB gTuple (aV (eLc (iO (eCall 2 d__law_row (aO (eCall 2 d__law_cell (aV (eVar 0) (aO (e2 gAdd (eVar 1) (eC (.int 2))) (aNil)))) (aO (e2 gMod (eB gInt (aV (e2 gDiv (eVar 2) (eC (.int 360))) (aNil))) (eC (.int 5))) (aNil))))) (gNm 8) (tYes) (asOwn (e2 gIx (eCall 0 d__law_acts aNil) (e2 gMod (eB gInt (aV (eVar 8) (aNil))) (eC (.int 6))))) [8]) (aNil)))) (sq (sAsg 7 (asOwn (e2 gIx (eLst (aO (e2 gMod (eB gInt (aV (e2 gDiv (eVar 2) (eC (.int 1800))) (aNil))) (eC (.int 12))) (aO (eC (.int 2147483647)) (aO (e2 gAdd (eC (.int 99)) (e2 gMod (eB gInt (aV (e2 gDiv (eVar 2) (eC (.int 1800))) (aNil))) (eC (.int 3)))) (aNil))))) (e2 gMod (eB gInt (aV (e2 gDiv (eVar 2) (eC (.int 21600))) (aNil))) (eC (.int 3)))))) (sRet (eTupM (mM 5 (mM 7 (mM 4 (mO (eB gTuple (aV (eVar 3) (aNil))) (mO (e2 gMod (eB gInt (aV (e2 gDiv (eVar 2) (eC (.int 64800))) (aNil))) (eC (.int 9))) (mM 6 (mO (e2 gMod (eB gInt (aV (e2 gDiv (eVar 2) (eC (.int 583200))) (aNil))) (eC (.int 5))) (mNil))))))))))))))))))))
def d__law_facts : List D → R D := fnD 2 9 b__law_facts
def b__law_replaced : Dv.Env → SR := sq (sAsg 2 (e2 gMod (eB gInt (aV (eVar 1) (aNil))) (eC (.int 7)))) (sq (sAsg 3 (eB gInt (aV (e2 gDiv (eVar 1) (eC (.int 7))) (aNil)))) (sq (sAsg 4 (eB gList (aV (eVar 0) (aNil)))) (sq (sAsg 5 (eLstM (mO (eLstM (mO (eTupM (mO (eC (.int 256)) (mNil))) (mO (eTupM (mO (e1 gNeg (eC (.int 1))) (mNil))) (mO (eLstM (mO (eC (.int 97)) (mNil))) (mO (eC (.str "a")) (mO (eTupM (mO (eC (.bl true)) (mNil))) (mO (eTupM (mNil)) (mNil)))))))) (mO (eLstM (mO (e1 gNeg (eC (.int 1))) (mO (eC (.int 2147483648)) (mO (eC (.bl true)) (mO (eC (.str "1")) (mO (eC (.int 0)) (mNil))))))) (mO (eLstM (mO (eC (.str "folio")) (mO (eC (.str "crate")) (mO (eC (.str "")) (mO (eC (.str "still")) (mO (eC (.str "mail")) (mO (eC .non) (mNil)))))))) (mO (eLstM (mO (eTupM (mO (eC (.str "crate")) (mO (eC (.str "folio")) (mNil)))) (mO (eTupM (mO (eC (.str "still")) (mO (eC (.str "film")) (mNil)))) (mO (eTupM (mO (eC (.str "folio")) (mO (eC (.str "folio")) (mNil)))) (mO (eTupM (mO (eC (.str "mail")) (mNil))) (mO (eLstM (mO (eC (.str "still")) (mNil))) (mO (eTupM (mO (eC (.str "film")) (mO (eC (.str "crate")) (mNil)))) (mO (eTupM (mNil)) (mNil))))))))) (mO (eLstM (mO (eC (.int 9)) (mO (e1 gNeg (eC (.int 1))) (mO (eC (.int 8)) (mO (eC (.bl false)) (mO (eC .non) (mNil))))))) (mO (eLstM (mO (eTupM (mO (eC (.str "script")) (mO (eC (.str "link")) (mNil)))) (mO (eTupM (mO (eC (.str "run")) (mNil))) (mO (eLstM (mO (eC (.str "open")) (mNil))) (mO (eTupM (mO (eC (.int 1)) (mNil))) (mO (eTupM (mNil)) (mNil))))))) (mO (eLstM (mO (eC (.int 5)) (mO (e1 gNeg (eC (.int 1))) (mO (eC (.int 4)) (mO (eC (.bl true)) (mNil)))))) (mNil)))))))))) (sq (sFz 5 (sSet 4 (eVar 2) (asOwn (e2 gIx (e2 gIx (eVar 5) (eVar 2)) (e2 gMod (eVar 3) (eB gLen (aV (e2 gIx (eVar 5) (eVar 2)) (aNil)))))))) (sRet (eB gTuple (aV (eVar 4) (aNil))))))))
def d__law_replaced : List D → R D := fnD 2 6 b__law_replaced
def b_is_integer : Dv.Env → SR := sRet (asOwn (eAnd (eIsi "int" (eVar 0)) (eNot (eIsi "bool" (eVar 0)))))
def d_is_integer : List D → R D := fnD 1 1 b_is_integer
def b_is_between : Dv.Env → SR := sRet (asOwn (eAnd (eCall 1 d_is_integer (aV (eVar 0) (aNil))) (e3 gLe gLe (eVar 1) (eVar 0) (eVar 2))))
def d_is_between : List D → R D := fnD 3 3 b_is_between
def b_are_words : Dv.Env → SR := sq (sIf (tNotF (eT (eIsi "tuple" (eVar 0)))) (sRet (eC (.bl false))) (sNil)) (sRet (eB gAll (aV (eLc (iW (eVar 0)) (gNm 2) (tYes) (asOwn (eAnd (eIsi "str" (eVar 2)) (e2 gIn (eVar 2) (eVar 1)))) [2]) (aNil))))
def d_are_words : List D → R D := fnD 2 3 b_are_words
def lp_is_kind_1 : Dv.Env → SR := sIf (eT (e2 gEq (eVar 3) (eVar 4))) (sRet (eC (.bl false))) (sNil)
def b_is_kind : Dv.Env → SR := sq (sIf (tOrF (tNotF (eT (eCall 2 d_are_words (aV (eVar 1) (aO (eC c_KINDS) (aNil)))))) (tNotF (eT (eIsi "str" (eVar 0))))) (sRet (eC (.bl false))) (sNil)) (sq (sAsg 2 (eLc (iW (eVar 1)) (gNm 5) (tYes) (eIdx c_KINDS (eVar 5)) [5])) (sq (sFz 2 (sIf (tOrF (eT (e2 gNe (eVar 2) (eB gSorted (aV (eVar 2) (aNil))))) (eT (e2 gGt (eB gLen (aV (eLc (iW (eVar 2)) (gNm 6) (eT (e2 gLt (eVar 6) (eC c_SINGLE))) (asOwn (eVar 6)) [6]) (aNil))) (eC (.int 1))))) (sRet (eC (.bl false))) (sNil))) (sq (sFz 2 (sFor (iA zip2 (aV (eVar 2) (aV (eFz (eSl (eVar 2) (oPt (eC (.int 1))) (oNo))) (aNil)))) (gTp (gsCons (gNm 3) (gsCons (gNm 4) (gsNil)))) lp_is_kind_1)) (sq (sIf (eT (e2 gEq (eVar 1) (eTup (aNil)))) (sRet (e2 gEq (eVar 0) (eC (.str "")))) (sNil)) (sq (sIf (eT (e2 gLt (e2 gIx (eVar 2) (eC (.int 0))) (eC c_SINGLE))) (sRet (e2 gEq (eVar 0) (e2 gIx (eVar 1) (eC (.int 0))))) (sNil)) (sRet (e2 gIn (eVar 0) (eVar 1))))))))
def d_is_kind : List D → R D := fnD 2 7 b_is_kind
def b_is_sound : Dv.Env → SR := sq (sIf (tOrF (tNotF (eT (eIsi "tuple" (eVar 0)))) (eT (e2 gNe (eB gLen (aV (eVar 0) (aNil))) (eC (.int 7))))) (sRet (eC (.bl false))) (sNil)) (sq (sUn (gTp (gsCons (gNm 1) (gsCons (gNm 2) (gsCons (gNm 3) (gsCons (gNm 4) (gsCons (gNm 5) (gsCons (gNm 6) (gsCons (gNm 7) (gsNil))))))))) (eVar 0)) (sq (sFz 1 (sIf (tOrF (tNotF (eT (eIsi "tuple" (eVar 1)))) (tNotF (eT (eB gAll (aV (eLc (iW (eVar 1)) (gNm 8) (tYes) (eCall 3 d_is_between (aV (eVar 8) (aO (eC (.int 0)) (aO (eC (.int 255)) (aNil))))) [8]) (aNil)))))) (sRet (eC (.bl false))) (sNil))) (sq (sIf (tOrF (tNotF (eT (eCall 3 d_is_between (aV (eVar 2) (aO (eC (.int 0)) (aO (eC c_MOST_SIZE) (aNil))))))) (tNotF (eT (eCall 3 d_is_between (aV (eVar 5) (aO (eC (.int 0)) (aO (eC c_MOST_PAGES) (aNil)))))))) (sRet (eC (.bl false))) (sNil)) (sq (sIf (tNotF (eT (eCall 3 d_is_between (aV (eVar 7) (aO (eC (.int 0)) (aO (eC c_MOST_DEPTH) (aNil))))))) (sRet (eC (.bl false))) (sNil)) (sRet (asOwn (eAnd (eCall 2 d_is_kind (aV (eVar 3) (aV (eVar 4) (aNil)))) (eCall 2 d_are_words (aV (eVar 6) (aO (eC c_ACTS) (aNil)))))))))))
def d_is_sound : List D → R D := fnD 1 9 b_is_sound
def lp__law_words_1 : Dv.Env → SR := sIf (tOrF (tNotF (eT (eIsi "str" (eVar 2)))) (eT (e2 gNotIn (eVar 2) (eVar 1)))) (sRet (eC (.bl false))) (sNil)
def b__law_words : Dv.Env → SR := sq (sIf (tNotF (eT (eIsi "tuple" (eVar 0)))) (sRet (eC (.bl false))) (sNil)) (sq (sFor (iW (eVar 0)) (gNm 2) lp__law_words_1) (sRet (eC (.bl true))))
def d__law_words : List D → R D := fnD 2 3 b__law_words
def b__law_kind_fits : Dv.Env → SR := sq (sIf (tOrF (tNotF (eT (eCall 2 d__law_words (aV (eVar 1) (aO (eCall 0 d__law_kinds aNil) (aNil)))))) (tNotF (eT (eIsi "str" (eVar 0))))) (sRet (eC (.bl false))) (sNil)) (sq (sAsg 2 (eLc (iW (eVar 1)) (gNm 4) (eT (e2 gNotIn (eVar 4) (eLst (aO (eC (.str "folio")) (aO (eC (.str "crate")) (aNil)))))) (asOwn (eVar 4)) [4])) (sq (sAsg 3 (eLc (iO (eCall 0 d__law_kinds aNil)) (gNm 4) (eT (e2 gIn (eVar 4) (eVar 1))) (asOwn (eVar 4)) [4])) (sq (sIf (tOrF (eT (e2 gNe (eB gList (aV (eVar 1) (aNil))) (eVar 3))) (eT (e2 gGt (eB gLen (aV (eVar 2) (aNil))) (eC (.int 1))))) (sRet (eC (.bl false))) (sNil)) (sq (sIf (eT (e2 gEq (eB gLen (aV (eVar 2) (aNil))) (eC (.int 1)))) (sRet (e2 gEq (eVar 0) (e2 gIx (eVar 2) (eC (.int 0))))) (sNil)) (sq (sIf (eT (e2 gEq (eB gLen (aV (eVar 1) (aNil))) (eC (.int 0)))) (sRet (e2 gEq (eVar 0) (eC (.str "")))) (sNil)) (sRet (e2 gIn (eVar 0) (eVar 1))))))))
def d__law_kind_fits : List D → R D := fnD 2 5 b__law_kind_fits
def b__law_is_integer : Dv.Env → SR := sRet (asOwn (eAnd (eIsi "int" (eVar 0)) (eNot (eIsi "bool" (eVar 0)))))
def d__law_is_integer : List D → R D := fnD 1 1 b__law_is_integer
def b__law_number : Dv.Env → SR := sRet (asOwn (eAnd (eCall 1 d__law_is_integer (aV (eVar 0) (aNil))) (e3 gLe gLe (eC (.int 0)) (eVar 0) (eVar 1))))
def d__law_number : List D → R D := fnD 2 2 b__law_number
def b__law_due : Dv.Env → SR := sq (sIf (tOrF (tNotF (eT (eIsi "tuple" (eVar 0)))) (eT (e2 gNe (eB gLen (aV (eVar 0) (aNil))) (eC (.int 7))))) (sRet (eC (.bl false))) (sNil)) (sq (sIf (tOrF (tNotF (eT (eIsi "tuple" (e2 gIx (eVar 0) (eC (.int 0)))))) (eT (e2 gGt (eB gLen (aV (eLc (iW (e2 gIx (eVar 0) (eC (.int 0)))) (gNm 1) (tNotF (eT (eCall 2 d__law_number (aV (eVar 1) (aO (eC (.int 255)) (aNil)))))) (asOwn (eVar 1)) [1]) (aNil))) (eC (.int 0))))) (sRet (eC (.bl false))) (sNil)) (sq (sIf (tOrF (tNotF (eT (eCall 2 d__law_number (aV (e2 gIx (eVar 0) (eC (.int 1))) (aO (eC (.int 2147483647)) (aNil)))))) (tOrF (tNotF (eT (eCall 2 d__law_number (aV (e2 gIx (eVar 0) (eC (.int 4))) (aO (eC (.int 8)) (aNil)))))) (tNotF (eT (eCall 2 d__law_number (aV (e2 gIx (eVar 0) (eC (.int 6))) (aO (eC (.int 4)) (aNil)))))))) (sRet (eC (.bl false))) (sNil)) (sRet (asOwn (eAnd (eCall 2 d__law_kind_fits (aV (e2 gIx (eVar 0) (eC (.int 2))) (aV (e2 gIx (eVar 0) (eC (.int 3))) (aNil)))) (eCall 2 d__law_words (aV (e2 gIx (eVar 0) (eC (.int 5))) (aO (eCall 0 d__law_acts aNil) (aNil)))))))))
def d__law_due : List D → R D := fnD 1 2 b__law_due
def lp_law_1 : Dv.Env → SR := sq (sAsg 4 (eCall 1 d_is_sound (aV (eVar 3) (aNil)))) (sIf (tOrF (tAndF (eT (e2 gIsNot (eVar 4) (eC (.bl true)))) (eT (e2 gIsNot (eVar 4) (eC (.bl false))))) (eT (e2 gNe (eVar 4) (eCall 1 d__law_due (aV (eVar 3) (aNil)))))) (sRet (eC (.bl false))) (sNil))
def b_law : Dv.Env → SR := sq (sAsg 1 (eCall 2 d__law_facts (aV (eVar 0) (aO (eC (.int 0)) (aNil))))) (sq (sIf (tOrF (eT (e2 gIsNot (eCall 1 d_is_sound (aV (eVar 1) (aNil))) (eC (.bl true)))) (tNotF (eT (eCall 1 d__law_due (aV (eVar 1) (aNil)))))) (sRet (eC (.bl false))) (sNil)) (sq (sAsg 2 (eLc (iA rng1 (aV (eC (.int 3)) (aNil))) (gNm 5) (tYes) (eCall 2 d__law_replaced (aV (eVar 1) (aO (eB gAbs (aV (eCall 2 d__law_cell (aV (eVar 0) (aO (e2 gAdd (eC (.int 3)) (eVar 5)) (aNil)))) (aNil))) (aNil)))) [5])) (sq (sApp 2 (eCall 2 d__law_replaced (aV (e2 gIx (eVar 2) (eC (.int 0))) (aO (eB gAbs (aV (eCall 2 d__law_cell (aV (eVar 0) (aO (eC (.int 6)) (aNil)))) (aNil))) (aNil))))) (sq (sAsg 2 (e2 gAdd (eVar 2) (eFz (eLstM (mO (eB gList (aV (eVar 1) (aNil))) (mO (e2 gAdd (eVar 1) (eTup (aO (eC (.int 0)) (aNil)))) (mO (eSl (eVar 1) (oNo) (oPt (eC (.int 6)))) (mO (eC .non) (mO (eC (.str "facts")) (mO (eTupM (mNil)) (mNil))))))))))) (sq (sFz 2 (sFor (iW (eVar 2)) (gNm 3) lp_law_1)) (sRet (eC (.bl true))))))))
def d_law : List D → R D := fnD 1 6 b_law
/-! ### what stands in the text -/
structure Ad where
  a__law_cell : Addr
  fd__law_cell : FuncData
  a__law_kinds : Addr
  fd__law_kinds : FuncData
  a__law_row : Addr
  fd__law_row : FuncData
  a__law_acts : Addr
  fd__law_acts : FuncData
  a__law_facts : Addr
  fd__law_facts : FuncData
  a__law_replaced : Addr
  fd__law_replaced : FuncData
  a_is_integer : Addr
  fd_is_integer : FuncData
  a_is_between : Addr
  fd_is_between : FuncData
  a_are_words : Addr
  fd_are_words : FuncData
  a_is_kind : Addr
  fd_is_kind : FuncData
  a_is_sound : Addr
  fd_is_sound : FuncData
  a__law_words : Addr
  fd__law_words : FuncData
  a__law_kind_fits : Addr
  fd__law_kind_fits : FuncData
  a__law_is_integer : Addr
  fd__law_is_integer : FuncData
  a__law_number : Addr
  fd__law_number : FuncData
  a__law_due : Addr
  fd__law_due : FuncData
  a_law : Addr
  fd_law : FuncData
def kx (K : PySem.W.Frag) : Kx := ⟨K, fun _ => 0⟩
def ec (A : Ad) : Nat → Value := fun c => match c with
  | _ => .none
structure Txt (K : PySem.W.Frag) (mg : Str → Option Value) (A : Ad) : Prop where
  f__law_cell : Fun K "_law_cell" "_law_cell" s__law_cell A.a__law_cell A.fd__law_cell
  m__law_cell : mg "_law_cell" = some (.ref A.a__law_cell)
  i__law_cell : Binds K A.fd__law_cell ["_law_script", "_law_k"] []
  f__law_kinds : Fun K "_law_kinds" "_law_kinds" s__law_kinds A.a__law_kinds A.fd__law_kinds
  m__law_kinds : mg "_law_kinds" = some (.ref A.a__law_kinds)
  i__law_kinds : Binds K A.fd__law_kinds [] []
  f__law_row : Fun K "_law_row" "_law_row" s__law_row A.a__law_row A.fd__law_row
  m__law_row : mg "_law_row" = some (.ref A.a__law_row)
  i__law_row : Binds K A.fd__law_row ["_law_cell_here", "_law_count"] []
  f__law_acts : Fun K "_law_acts" "_law_acts" s__law_acts A.a__law_acts A.fd__law_acts
  m__law_acts : mg "_law_acts" = some (.ref A.a__law_acts)
  i__law_acts : Binds K A.fd__law_acts [] []
  f__law_facts : Fun K "_law_facts" "_law_facts" s__law_facts A.a__law_facts A.fd__law_facts
  m__law_facts : mg "_law_facts" = some (.ref A.a__law_facts)
  i__law_facts : Binds K A.fd__law_facts ["_law_script", "_law_at"] []
  f__law_replaced : Fun K "_law_replaced" "_law_replaced" s__law_replaced A.a__law_replaced A.fd__law_replaced
  m__law_replaced : mg "_law_replaced" = some (.ref A.a__law_replaced)
  i__law_replaced : Binds K A.fd__law_replaced ["_law_facts_here", "_law_cell_here"] []
  f_is_integer : Fun K "is_integer" "is_integer" s_is_integer A.a_is_integer A.fd_is_integer
  m_is_integer : mg "is_integer" = some (.ref A.a_is_integer)
  i_is_integer : Binds K A.fd_is_integer ["value"] []
  f_is_between : Fun K "is_between" "is_between" s_is_between A.a_is_between A.fd_is_between
  m_is_between : mg "is_between" = some (.ref A.a_is_between)
  i_is_between : Binds K A.fd_is_between ["value", "least", "most"] []
  f_are_words : Fun K "are_words" "are_words" s_are_words A.a_are_words A.fd_are_words
  m_are_words : mg "are_words" = some (.ref A.a_are_words)
  i_are_words : Binds K A.fd_are_words ["value", "words"] []
  f_is_kind : Fun K "is_kind" "is_kind" s_is_kind A.a_is_kind A.fd_is_kind
  m_is_kind : mg "is_kind" = some (.ref A.a_is_kind)
  i_is_kind : Binds K A.fd_is_kind ["kind", "kinds"] []
  f_is_sound : Fun K "is_sound" "is_sound" s_is_sound A.a_is_sound A.fd_is_sound
  m_is_sound : mg "is_sound" = some (.ref A.a_is_sound)
  i_is_sound : Binds K A.fd_is_sound ["value"] []
  f__law_words : Fun K "_law_words" "_law_words" s__law_words A.a__law_words A.fd__law_words
  m__law_words : mg "_law_words" = some (.ref A.a__law_words)
  i__law_words : Binds K A.fd__law_words ["_law_value", "_law_words_here"] []
  f__law_kind_fits : Fun K "_law_kind_fits" "_law_kind_fits" s__law_kind_fits A.a__law_kind_fits A.fd__law_kind_fits
  m__law_kind_fits : mg "_law_kind_fits" = some (.ref A.a__law_kind_fits)
  i__law_kind_fits : Binds K A.fd__law_kind_fits ["_law_kind", "_law_kinds_here"] []
  f__law_is_integer : Fun K "_law_is_integer" "_law_is_integer" s__law_is_integer A.a__law_is_integer A.fd__law_is_integer
  m__law_is_integer : mg "_law_is_integer" = some (.ref A.a__law_is_integer)
  i__law_is_integer : Binds K A.fd__law_is_integer ["_law_actual"] []
  f__law_number : Fun K "_law_number" "_law_number" s__law_number A.a__law_number A.fd__law_number
  m__law_number : mg "_law_number" = some (.ref A.a__law_number)
  i__law_number : Binds K A.fd__law_number ["_law_value", "_law_most"] []
  f__law_due : Fun K "_law_due" "_law_due" s__law_due A.a__law_due A.fd__law_due
  m__law_due : mg "_law_due" = some (.ref A.a__law_due)
  i__law_due : Binds K A.fd__law_due ["_law_value"] []
  f_law : Fun K "law" "law" s_law A.a_law A.fd_law
  m_law : mg "law" = some (.ref A.a_law)
  i_law : Binds K A.fd_law ["_law_script"] []
  z_abs : mg "abs" = none
  z_all : mg "all" = none
  z_bool : mg "bool" = none
  z_int : mg "int" = none
  z_isinstance : mg "isinstance" = none
  z_len : mg "len" = none
  z_list : mg "list" = none
  z_range : mg "range" = none
  z_sorted : mg "sorted" = none
  z_str : mg "str" = none
  z_tuple : mg "tuple" = none
  z_zip : mg "zip" = none
  g_ACTS : Glob (kx K) mg "ACTS" c_ACTS
  g_KINDS : Glob (kx K) mg "KINDS" c_KINDS
  g_MOST_DEPTH : Glob (kx K) mg "MOST_DEPTH" c_MOST_DEPTH
  g_MOST_PAGES : Glob (kx K) mg "MOST_PAGES" c_MOST_PAGES
  g_MOST_SIZE : Glob (kx K) mg "MOST_SIZE" c_MOST_SIZE
  g_SINGLE : Glob (kx K) mg "SINGLE" c_SINGLE
  h_KINDS : GlobT (kx K) mg "KINDS"
section
variable {P : Program} {w : World} {K : PySem.W.Frag} {mg : Str → Option Value} {base : Heap} {A : Ad}
theorem ok__law_cell (T : Txt K mg A) : FnOk P w K mg base (L2.CX P w) 1 A.a__law_cell A.fd__law_cell ["_law_script", "_law_k"] (spD (kx K) (ec A) 2 d__law_cell) := by
  refine fn_ok 0 2 2 (kx K) (ec A) rfl rfl T.f__law_cell sc__law_cell (b := b__law_cell) fun cdv A' outer s H Ew He F0 v0 W hr tk hp => ?_
  exact sb_cons (ss_if (et_lt (ev_var (pv 1)) (EO.v (eo_B call_len says_len rfl T.z_len bb_len (ea_v (ev_var (pv 0)) (ea_nil))))) (sb_one (ss_ret (eo_T call_int1 says_int rfl T.z_int bb_int (ea_v (ev_ix rfl (ev_var (pv 0)) (ev_var (pv 1))) (ea_nil))))) (sb_nil)) (sb_one (ss_ret (eo_int)))
theorem ok__law_kinds (T : Txt K mg A) : FnOk P w K mg base (L2.CX P w) 1 A.a__law_kinds A.fd__law_kinds [] (spD (kx K) (ec A) 0 d__law_kinds) := by
  refine fn_ok 0 0 0 (kx K) (ec A) rfl rfl T.f__law_kinds sc__law_kinds (b := b__law_kinds) fun cdv A' outer s H Ew He F0 v0 W hr tk hp => ?_
  exact sb_one (ss_retL (fun _ _ z => nomatch z) (em_o (eo_str) (em_o (eo_str) (em_o (eo_str) (em_o (eo_str) (em_o (eo_str) (em_o (eo_str) (em_nil))))))))
theorem ok__law_row (T : Txt K mg A) : FnOk P w K mg base (L2.CX P w) 1 A.a__law_row A.fd__law_row ["_law_cell_here", "_law_count"] (spD (kx K) (ec A) 2 d__law_row) := by
  refine fn_ok 0 2 6 (kx K) (ec A) rfl rfl T.f__law_row sc__law_row (b := b__law_row) fun cdv A' outer s H Ew He F0 v0 W hr tk hp => ?_
  exact sb_cons (ss_asg sc__law_row.nd rfl (by first | exact .inl rfl | exact .inr rfl) (fun z => nomatch z) (eo_lstM (em_nil))) (sb_cons (ss_asg sc__law_row.nd rfl (by first | exact .inl rfl | exact .inr rfl) (fun z => nomatch z) (eo_B call_abs says_abs rfl T.z_abs bb_abs (ea_v (ev_var (pv 0)) (ea_nil)))) (sb_cons (ss_if (et_ge (ev_var (pv 3)) (EO.v (eo_pow (EO.v (eo_int)) (EO.v (eo_int))))) (sb_cons (ss_for hp rfl (ei_rng1 rfl T.z_range (ea_v (ev_var (pv 1)) (ea_nil))) (eg_name sc__law_row.nd rfl (by first | exact .inl rfl | exact .inr rfl) (fun z => nomatch z)) (b := lp__law_row_1) (sb_cons (ss_app (pv 2) (eo_band (ev_var (pv 3)) (EO.v (eo_int)))) (sb_one (ss_asg sc__law_row.nd rfl (by first | exact .inl rfl | exact .inr rfl) (fun z => nomatch z) (eo_shr (ev_var (pv 3)) (EO.v (eo_int))))))) (sb_one (ss_retV (i := 2) (fun z => nomatch z) (pv 2)))) (sb_nil)) (sb_cons (ss_asg sc__law_row.nd rfl (by first | exact .inl rfl | exact .inr rfl) (fun z => nomatch z) (eo_add (EO.v (eo_mod (EO.v (eo_T call_int1 says_int rfl T.z_int bb_int (ea_v (ev_var (pv 3)) (ea_nil)))) (EO.v (eo_int)))) (EO.v (eo_int)))) (sb_cons (ss_for hp rfl (ei_rng1 rfl T.z_range (ea_v (ev_var (pv 1)) (ea_nil))) (eg_name sc__law_row.nd rfl (by first | exact .inl rfl | exact .inr rfl) (fun z => nomatch z)) (b := lp__law_row_2) (sb_cons (ss_asg sc__law_row.nd rfl (by first | exact .inl rfl | exact .inr rfl) (fun z => nomatch z) (eo_mod (EO.v (eo_T call_int1 says_int rfl T.z_int bb_int (ea_v (EO.v (eo_mul (ev_var (pv 4)) (EO.v (eo_int)))) (ea_nil)))) (EO.v (eo_int)))) (sb_one (ss_app (pv 2) (eo_band (EO.v (eo_add (EO.v (eo_div (ev_var (pv 4)) (EO.v (eo_int)))) (ev_var (pv 4)))) (EO.v (eo_int))))))) (sb_one (ss_retV (i := 2) (fun z => nomatch z) (pv 2)))))))
theorem ok__law_acts (T : Txt K mg A) : FnOk P w K mg base (L2.CX P w) 1 A.a__law_acts A.fd__law_acts [] (spD (kx K) (ec A) 0 d__law_acts) := by
  refine fn_ok 0 0 0 (kx K) (ec A) rfl rfl T.f__law_acts sc__law_acts (b := b__law_acts) fun cdv A' outer s H Ew He F0 v0 W hr tk hp => ?_
  exact sb_one (ss_retL (fun _ _ z => nomatch z) (em_o (eo_str) (em_o (eo_str) (em_o (eo_str) (em_o (eo_str) (em_o (eo_str) (em_o (eo_str) (em_nil))))))))
theorem ok__law_facts (T : Txt K mg A) : FnOk P w K mg base (L2.CX P w) 2 A.a__law_facts A.fd__law_facts ["_law_script", "_law_at"] (spD (kx K) (ec A) 2 d__law_facts) := by
  refine fn_ok 1 2 9 (kx K) (ec A) rfl rfl T.f__law_facts sc__law_facts (b := b__law_facts) fun cdv A' outer s H Ew He F0 v0 W hr tk hp => ?_
  exact sb_cons (ss_asg sc__law_facts.nd rfl (by first | exact .inl rfl | exact .inr rfl) (fun z => nomatch z) (eo_B call_abs says_abs rfl T.z_abs bb_abs (ea_v (EO.v (eo_call (ok__law_cell T) tk (hr.mono (by decide)) rfl T.m__law_cell T.f__law_cell.kp T.i__law_cell (ea_v (ev_var (pv 0)) (ea_v (ev_var (pv 1)) (ea_nil))))) (ea_nil)))) (sb_cons (ss_asg sc__law_facts.nd rfl (by first | exact .inl rfl | exact .inr rfl) (fun z => nomatch z) (eo_lstM (em_nil))) (sb_cons (ss_if (et_gt (EO.v (eo_mod (EO.v (eo_T call_int1 says_int rfl T.z_int bb_int (ea_v (ev_var (pv 2)) (ea_nil)))) (EO.v (eo_int)))) (EO.v (eo_int))) (sb_one (ss_app (pv 3) (EV.o (ev_ix rfl (EO.v (eo_call0 (ok__law_kinds T) tk (hr.mono (by decide)) rfl T.m__law_kinds T.f__law_kinds.kp T.i__law_kinds)) (EO.v (eo_sub (EO.v (eo_mod (EO.v (eo_T call_int1 says_int rfl T.z_int bb_int (ea_v (ev_var (pv 2)) (ea_nil)))) (EO.v (eo_int)))) (EO.v (eo_int)))))))) (sb_nil)) (sb_cons (ss_if (et_eq rfl hr.units (EO.v (eo_band (EO.v (eo_T call_int1 says_int rfl T.z_int bb_int (ea_v (EO.v (eo_div (ev_var (pv 2)) (EO.v (eo_int)))) (ea_nil)))) (EO.v (eo_int)))) (EO.v (eo_int))) (sb_one (ss_app (pv 3) (eo_str))) (sb_nil)) (sb_cons (ss_if (et_eq rfl hr.units (EO.v (eo_band (EO.v (eo_T call_int1 says_int rfl T.z_int bb_int (ea_v (EO.v (eo_div (ev_var (pv 2)) (EO.v (eo_int)))) (ea_nil)))) (EO.v (eo_int)))) (EO.v (eo_int))) (sb_one (ss_app (pv 3) (eo_str))) (sb_nil)) (sb_cons (ss_asg sc__law_facts.nd rfl (by first | exact .inl rfl | exact .inr rfl) (fun z => nomatch z) (eo_str)) (sb_cons (ss_if (et_gt (EO.v (eo_B call_len says_len rfl T.z_len bb_len (ea_v (ev_var (pv 3)) (ea_nil)))) (EO.v (eo_int))) (sb_one (ss_asg sc__law_facts.nd rfl (by first | exact .inl rfl | exact .inr rfl) (fun z => nomatch z) (EV.o (ev_ix rfl (ev_var (pv 3)) (EO.v (eo_int)))))) (sb_nil)) (sb_cons (ss_if (EW.t (ew_and (et_eq rfl hr.units (ev_var (pv 3)) (EO.v (eo_lst (ea_o (eo_str) (ea_o (eo_str) (ea_nil)))))) (ew_and1 (et_eq rfl hr.units (EO.v (eo_band (EO.v (eo_T call_int1 says_int rfl T.z_int bb_int (ea_v (EO.v (eo_div (ev_var (pv 2)) (EO.v (eo_int)))) (ea_nil)))) (EO.v (eo_int)))) (EO.v (eo_int)))))) (sb_one (ss_asg sc__law_facts.nd rfl (by first | exact .inl rfl | exact .inr rfl) (fun z => nomatch z) (eo_str))) (sb_nil)) (sb_cons (ss_asg sc__law_facts.nd rfl (by first | exact .inl rfl | exact .inr rfl) (fun z => nomatch z) (eo_T call_tuple_of says_tuple rfl T.z_tuple bb_tuple (ea_v (EO.v (eo_lc (own := [("_law_byte", 8)]) rfl sc__law_facts.nd (ei_o rfl (eo_call (ok__law_row T) tk (hr.mono (by decide)) rfl T.m__law_row T.f__law_row.kp T.i__law_row (ea_o (eo_call (ok__law_cell T) tk (hr.mono (by decide)) rfl T.m__law_cell T.f__law_cell.kp T.i__law_cell (ea_v (ev_var (pv 0)) (ea_o (eo_add (ev_var (pv 1)) (EO.v (eo_int))) (ea_nil)))) (ea_o (eo_mod (EO.v (eo_T call_int1 says_int rfl T.z_int bb_int (ea_v (EO.v (eo_div (ev_var (pv 2)) (EO.v (eo_int)))) (ea_nil)))) (EO.v (eo_int))) (ea_nil))))) (by show blkC ["_law_script", "_law_at", "_law_cell_here", "_law_kinds_here", "_law_kind", "_law_name", "_law_acts_here", "_law_size", "_law_byte"] (defScope s__law_facts) _ _ = true; decide +kernel) (fun _ _ _ _ _ => egw_name (by decide) sc__law_facts.nd rfl (by first | exact .inl rfl | exact .inr rfl) (fun z => nomatch z)) (fun _ _ _ _ _ tk => ets_nil) (fun _ _ _ _ _ tk => EV.o (ev_ix rfl (EO.v (eo_lst (ea_o (eo_int) (ea_o (eo_int) (ea_o (eo_int) (ea_o (eo_int) (ea_o (eo_int) (ea_nil)))))))) (EO.v (eo_mod (EO.v (eo_T call_int1 says_int rfl T.z_int bb_int (ea_v (ev_var (pv 8)) (ea_nil)))) (EO.v (eo_int)))))) (fun _ _ z => nomatch z))) (ea_nil)))) (sb_cons (ss_asg sc__law_facts.nd rfl (by first | exact .inl rfl | exact .inr rfl) (fun z => nomatch z) (eo_T call_tuple_of says_tuple rfl T.z_tuple bb_tuple (ea_v (EO.v (eo_lc (own := [("_law_byte", 8)]) rfl sc__law_facts.nd (ei_o rfl (eo_call (ok__law_row T) tk (hr.mono (by decide)) rfl T.m__law_row T.f__law_row.kp T.i__law_row (ea_o (eo_call (ok__law_cell T) tk (hr.mono (by decide)) rfl T.m__law_cell T.f__law_cell.kp T.i__law_cell (ea_v (ev_var (pv 0)) (ea_o (eo_add (ev_var (pv 1)) (EO.v (eo_int))) (ea_nil)))) (ea_o (eo_mod (EO.v (eo_T call_int1 says_int rfl T.z_int bb_int (ea_v (EO.v (eo_div (ev_var (pv 2)) (EO.v (eo_int)))) (ea_nil)))) (EO.v (eo_int))) (ea_nil))))) (by show blkC ["_law_script", "_law_at", "_law_cell_here", "_law_kinds_here", "_law_kind", "_law_name", "_law_acts_here", "_law_size", "_law_byte"] (defScope s__law_facts) _ _ = true; decide +kernel) (fun _ _ _ _ _ => egw_name (by decide) sc__law_facts.nd rfl (by first | exact .inl rfl | exact .inr rfl) (fun z => nomatch z)) (fun _ _ _ _ _ tk => ets_nil) (fun _ _ _ _ _ tk => EV.o (ev_ix rfl (EO.v (eo_call0 (ok__law_acts T) tk (hr.mono (by decide)) rfl T.m__law_acts T.f__law_acts.kp T.i__law_acts)) (EO.v (eo_mod (EO.v (eo_T call_int1 says_int rfl T.z_int bb_int (ea_v (ev_var (pv 8)) (ea_nil)))) (EO.v (eo_int)))))) (fun _ _ z => nomatch z))) (ea_nil)))) (sb_cons (ss_asg sc__law_facts.nd rfl (by first | exact .inl rfl | exact .inr rfl) (fun z => nomatch z) (EV.o (ev_ix rfl (EO.v (eo_lst (ea_o (eo_mod (EO.v (eo_T call_int1 says_int rfl T.z_int bb_int (ea_v (EO.v (eo_div (ev_var (pv 2)) (EO.v (eo_int)))) (ea_nil)))) (EO.v (eo_int))) (ea_o (eo_int) (ea_o (eo_add (EO.v (eo_int)) (EO.v (eo_mod (EO.v (eo_T call_int1 says_int rfl T.z_int bb_int (ea_v (EO.v (eo_div (ev_var (pv 2)) (EO.v (eo_int)))) (ea_nil)))) (EO.v (eo_int))))) (ea_nil)))))) (EO.v (eo_mod (EO.v (eo_T call_int1 says_int rfl T.z_int bb_int (ea_v (EO.v (eo_div (ev_var (pv 2)) (EO.v (eo_int)))) (ea_nil)))) (EO.v (eo_int))))))) (sb_one (ss_retT (fun _ _ z => nomatch z) (em_m (i := 5) (by decide) (pv 5) (em_m (i := 7) (by decide) (pv 7) (em_m (i := 4) (by decide) (pv 4) (em_o (eo_T call_tuple_of says_tuple rfl T.z_tuple bb_tuple (ea_v (ev_var (pv 3)) (ea_nil))) (em_o (eo_mod (EO.v (eo_T call_int1 says_int rfl T.z_int bb_int (ea_v (EO.v (eo_div (ev_var (pv 2)) (EO.v (eo_int)))) (ea_nil)))) (EO.v (eo_int))) (em_m (i := 6) (by decide) (pv 6) (em_o (eo_mod (EO.v (eo_T call_int1 says_int rfl T.z_int bb_int (ea_v (EO.v (eo_div (ev_var (pv 2)) (EO.v (eo_int)))) (ea_nil)))) (EO.v (eo_int))) (em_nil))))))))))))))))))))
theorem ok__law_replaced (T : Txt K mg A) : FnOk P w K mg base (L2.CX P w) 1 A.a__law_replaced A.fd__law_replaced ["_law_facts_here", "_law_cell_here"] (spD (kx K) (ec A) 2 d__law_replaced) := by
  refine fn_ok 0 2 6 (kx K) (ec A) rfl rfl T.f__law_replaced sc__law_replaced (b := b__law_replaced) fun cdv A' outer s H Ew He F0 v0 W hr tk hp => ?_
  exact sb_cons (ss_asg sc__law_replaced.nd rfl (by first | exact .inl rfl | exact .inr rfl) (fun z => nomatch z) (eo_mod (EO.v (eo_T call_int1 says_int rfl T.z_int bb_int (ea_v (ev_var (pv 1)) (ea_nil)))) (EO.v (eo_int)))) (sb_cons (ss_asg sc__law_replaced.nd rfl (by first | exact .inl rfl | exact .inr rfl) (fun z => nomatch z) (eo_T call_int1 says_int rfl T.z_int bb_int (ea_v (EO.v (eo_div (ev_var (pv 1)) (EO.v (eo_int)))) (ea_nil)))) (sb_cons (ss_asg sc__law_replaced.nd rfl (by first | exact .inl rfl | exact .inr rfl) (fun z => nomatch z) (eo_T call_list_of says_list rfl T.z_list bb_list (ea_v (ev_var (pv 0)) (ea_nil)))) (sb_cons (ss_asg sc__law_replaced.nd rfl (by first | exact .inl rfl | exact .inr rfl) (fun z => nomatch z) (eo_lstM (em_o (eo_lstM (em_o (eo_tupM (em_o (eo_int) (em_nil))) (em_o (eo_tupM (em_o (eo_neg (EO.v (eo_int))) (em_nil))) (em_o (eo_lstM (em_o (eo_int) (em_nil))) (em_o (eo_str) (em_o (eo_tupM (em_o (eo_bl) (em_nil))) (em_o (eo_tupM (em_nil)) (em_nil)))))))) (em_o (eo_lstM (em_o (eo_neg (EO.v (eo_int))) (em_o (eo_int) (em_o (eo_bl) (em_o (eo_str) (em_o (eo_int) (em_nil))))))) (em_o (eo_lstM (em_o (eo_str) (em_o (eo_str) (em_o (eo_str) (em_o (eo_str) (em_o (eo_str) (em_o (eo_non) (em_nil)))))))) (em_o (eo_lstM (em_o (eo_tupM (em_o (eo_str) (em_o (eo_str) (em_nil)))) (em_o (eo_tupM (em_o (eo_str) (em_o (eo_str) (em_nil)))) (em_o (eo_tupM (em_o (eo_str) (em_o (eo_str) (em_nil)))) (em_o (eo_tupM (em_o (eo_str) (em_nil))) (em_o (eo_lstM (em_o (eo_str) (em_nil))) (em_o (eo_tupM (em_o (eo_str) (em_o (eo_str) (em_nil)))) (em_o (eo_tupM (em_nil)) (em_nil))))))))) (em_o (eo_lstM (em_o (eo_int) (em_o (eo_neg (EO.v (eo_int))) (em_o (eo_int) (em_o (eo_bl) (em_o (eo_non) (em_nil))))))) (em_o (eo_lstM (em_o (eo_tupM (em_o (eo_str) (em_o (eo_str) (em_nil)))) (em_o (eo_tupM (em_o (eo_str) (em_nil))) (em_o (eo_lstM (em_o (eo_str) (em_nil))) (em_o (eo_tupM (em_o (eo_int) (em_nil))) (em_o (eo_tupM (em_nil)) (em_nil))))))) (em_o (eo_lstM (em_o (eo_int) (em_o (eo_neg (EO.v (eo_int))) (em_o (eo_int) (em_o (eo_bl) (em_nil)))))) (em_nil)))))))))) (sb_cons (ss_fz 5 (fun z => nomatch z) (ss_setL (pv 4) (EV.o (ev_ix rfl (ev_ix rfl (ev_var (pv 5)) (ev_var (pv 2))) (EO.v (eo_mod (ev_var (pv 3)) (EO.v (eo_B call_len says_len rfl T.z_len bb_len (ea_v (ev_ix rfl (ev_var (pv 5)) (ev_var (pv 2))) (ea_nil)))))))) (ev_var (pv 2)))) (sb_one (ss_ret (eo_T call_tuple_of says_tuple rfl T.z_tuple bb_tuple (ea_v (ev_var (pv 4)) (ea_nil)))))))))
theorem ok_is_integer (T : Txt K mg A) : FnOk P w K mg base (L2.CX P w) 1 A.a_is_integer A.fd_is_integer ["value"] (spD (kx K) (ec A) 1 d_is_integer) := by
  refine fn_ok 0 1 1 (kx K) (ec A) rfl rfl T.f_is_integer sc_is_integer (b := b_is_integer) fun cdv A' outer s H Ew He F0 v0 W hr tk hp => ?_
  exact sb_one (ss_ret (EV.o (ev_and rfl (EO.v (eo_isi rfl rfl T.z_isinstance bb_isinstance rfl T.z_int bb_int (ev_var (pv 0)))) (ev_one (EO.v (eo_not rfl (EO.v (eo_isi rfl rfl T.z_isinstance bb_isinstance rfl T.z_bool bb_bool (ev_var (pv 0))))))))))
theorem ok_is_between (T : Txt K mg A) : FnOk P w K mg base (L2.CX P w) 2 A.a_is_between A.fd_is_between ["value", "least", "most"] (spD (kx K) (ec A) 3 d_is_between) := by
  refine fn_ok 1 3 3 (kx K) (ec A) rfl rfl T.f_is_between sc_is_between (b := b_is_between) fun cdv A' outer s H Ew He F0 v0 W hr tk hp => ?_
  exact sb_one (ss_ret (EV.o (ev_and rfl (EO.v (eo_call (ok_is_integer T) tk (hr.mono (by decide)) rfl T.m_is_integer T.f_is_integer.kp T.i_is_integer (ea_v (ev_var (pv 0)) (ea_nil)))) (ev_one (EO.v (eo_chain op_le says_cmp op_le says_cmp (by with_unfolding_all rfl) (ev_var (pv 1)) (ev_var (pv 0)) (ev_var (pv 2))))))))
theorem ok_are_words (T : Txt K mg A) : FnOk P w K mg base (L2.CX P w) 1 A.a_are_words A.fd_are_words ["value", "words"] (spD (kx K) (ec A) 2 d_are_words) := by
  refine fn_ok 0 2 3 (kx K) (ec A) rfl rfl T.f_are_words sc_are_words (b := b_are_words) fun cdv A' outer s H Ew He F0 v0 W hr tk hp => ?_
  exact sb_cons (ss_if (et_not (et_tru rfl (EO.v (eo_isi rfl rfl T.z_isinstance bb_isinstance rfl T.z_tuple bb_tuple (ev_var (pv 0)))))) (sb_one (ss_ret (eo_bl))) (sb_nil)) (sb_one (ss_ret (eo_B (cr_all rfl) says_all rfl T.z_all bb_all (ea_v (EO.v (eo_lc (own := [("word", 2)]) rfl sc_are_words.nd (ei_w rfl (ev_var (pv 0))) (by show blkC ["value", "words", "word"] (defScope s_are_words) _ _ = true; decide +kernel) (fun _ _ _ _ _ => egw_name (by decide) sc_are_words.nd rfl (by first | exact .inl rfl | exact .inr rfl) (fun z => nomatch z)) (fun _ _ _ _ _ tk => ets_nil) (fun _ _ _ _ _ tk => EV.o (ev_and rfl (EO.v (eo_isi rfl rfl T.z_isinstance bb_isinstance rfl T.z_str bb_str (ev_var (pv 2)))) (ev_one (EO.v (eo_in rfl (room65 hr) (ev_var (pv 2)) (ev_var (pv 1))))))) (fun _ _ z => nomatch z))) (ea_nil)))))
theorem ok_is_kind (T : Txt K mg A) : FnOk P w K mg base (L2.CX P w) 2 A.a_is_kind A.fd_is_kind ["kind", "kinds"] (spD (kx K) (ec A) 2 d_is_kind) := by
  refine fn_ok 1 2 7 (kx K) (ec A) rfl rfl T.f_is_kind sc_is_kind (b := b_is_kind) fun cdv A' outer s H Ew He F0 v0 W hr tk hp => ?_
  exact sb_cons (ss_if (EW.t (ew_or (et_not (et_tru rfl (EO.v (eo_call (ok_are_words T) tk (hr.mono (by decide)) rfl T.m_are_words T.f_are_words.kp T.i_are_words (ea_v (ev_var (pv 1)) (ea_o (eo_g rfl T.g_KINDS) (ea_nil))))))) (ew_or1 (et_not (et_tru rfl (EO.v (eo_isi rfl rfl T.z_isinstance bb_isinstance rfl T.z_str bb_str (ev_var (pv 0))))))))) (sb_one (ss_ret (eo_bl))) (sb_nil)) (sb_cons (ss_setLc (own := [("word", 5)]) rfl sc_is_kind.nd rfl rfl (fun z => nomatch z) rfl rfl rfl (by decide +kernel) (ei_w rfl (ev_var (pv 1))) (by show blkC ["kind", "kinds", "places", "before", "behind", "word", "place"] (defScope s_is_kind) _ _ = true; decide +kernel) (fun _ _ _ _ _ => egw_name (by decide) sc_is_kind.nd rfl (by first | exact .inl rfl | exact .inr rfl) (fun z => nomatch z)) (fun _ _ _ _ _ tk => ets_nil) (fun _ _ _ _ _ tk => eo_gidx rfl rfl T.g_KINDS T.h_KINDS (ev_var (pv 5))) (fun _ _ z => nomatch z)) (sb_cons (ss_fz 2 (fun z => nomatch z) (ss_if (EW.t (ew_or (et_ne rfl hr.units (ev_var (pv 2)) (EO.v (eo_B cr_sortedI says_sorted rfl T.z_sorted bb_sorted (ea_v (ev_var (pv 2)) (ea_nil))))) (ew_or1 (et_gt (EO.v (eo_B call_len says_len rfl T.z_len bb_len (ea_v (EO.v (eo_lc (own := [("place", 6)]) rfl sc_is_kind.nd (ei_w rfl (ev_var (pv 2))) (by show blkC ["kind", "kinds", "places", "before", "behind", "word", "place"] (defScope s_is_kind) _ _ = true; decide +kernel) (fun _ _ _ _ _ => egw_name (by decide) sc_is_kind.nd rfl (by first | exact .inl rfl | exact .inr rfl) (fun z => nomatch z)) (fun _ _ _ _ _ tk => ets_one (et_lt (ev_var (pv 6)) (EO.v (eo_g rfl T.g_SINGLE)))) (fun _ _ _ _ _ tk => EV.o (ev_var (pv 6))) (fun _ _ z => nomatch z))) (ea_nil)))) (EO.v (eo_int)))))) (sb_one (ss_ret (eo_bl))) (sb_nil))) (sb_cons (ss_fz 2 (fun z => nomatch z) (ss_for hp rfl (ei_zip rfl rfl T.z_zip (ea_v (ev_var (pv 2)) (ea_v (EO.vz (eo_sl rfl (ev_var (pv 2)) (ep_pt (EO.v (eo_int))) (ep_no))) (ea_nil)))) (eg_tup rfl rfl (egs_cons (eg_name sc_is_kind.nd rfl (by first | exact .inl rfl | exact .inr rfl) (fun z => nomatch z)) (egs_cons (eg_name sc_is_kind.nd rfl (by first | exact .inl rfl | exact .inr rfl) (fun z => nomatch z)) (egs_nil))) 2 (gsCons_len (gsCons_len (gsNil_len)))) (b := lp_is_kind_1) (sb_one (ss_if (et_eq rfl hr.units (ev_var (pv 3)) (ev_var (pv 4))) (sb_one (ss_ret (eo_bl))) (sb_nil))))) (sb_cons (ss_if (et_eq rfl hr.units (ev_var (pv 1)) (EO.v (eo_tup (ea_nil)))) (sb_one (ss_ret (eo_eq rfl hr.units (ev_var (pv 0)) (EO.v (eo_str))))) (sb_nil)) (sb_cons (ss_if (et_lt (ev_ix rfl (ev_var (pv 2)) (EO.v (eo_int))) (EO.v (eo_g rfl T.g_SINGLE))) (sb_one (ss_ret (eo_eq rfl hr.units (ev_var (pv 0)) (ev_ix rfl (ev_var (pv 1)) (EO.v (eo_int)))))) (sb_nil)) (sb_one (ss_ret (eo_in rfl (room65 hr) (ev_var (pv 0)) (ev_var (pv 1))))))))))
theorem ok_is_sound (T : Txt K mg A) : FnOk P w K mg base (L2.CX P w) 3 A.a_is_sound A.fd_is_sound ["value"] (spD (kx K) (ec A) 1 d_is_sound) := by
  refine fn_ok 2 1 9 (kx K) (ec A) rfl rfl T.f_is_sound sc_is_sound (b := b_is_sound) fun cdv A' outer s H Ew He F0 v0 W hr tk hp => ?_
  exact sb_cons (ss_if (EW.t (ew_or (et_not (et_tru rfl (EO.v (eo_isi rfl rfl T.z_isinstance bb_isinstance rfl T.z_tuple bb_tuple (ev_var (pv 0)))))) (ew_or1 (et_ne rfl hr.units (EO.v (eo_B call_len says_len rfl T.z_len bb_len (ea_v (ev_var (pv 0)) (ea_nil)))) (EO.v (eo_int)))))) (sb_one (ss_ret (eo_bl))) (sb_nil)) (sb_cons (ss_un (ev_var (pv 0)) (eg_tup rfl rfl (egs_cons (eg_name sc_is_sound.nd rfl (by first | exact .inl rfl | exact .inr rfl) (fun z => nomatch z)) (egs_cons (eg_name sc_is_sound.nd rfl (by first | exact .inl rfl | exact .inr rfl) (fun z => nomatch z)) (egs_cons (eg_name sc_is_sound.nd rfl (by first | exact .inl rfl | exact .inr rfl) (fun z => nomatch z)) (egs_cons (eg_name sc_is_sound.nd rfl (by first | exact .inl rfl | exact .inr rfl) (fun z => nomatch z)) (egs_cons (eg_name sc_is_sound.nd rfl (by first | exact .inl rfl | exact .inr rfl) (fun z => nomatch z)) (egs_cons (eg_name sc_is_sound.nd rfl (by first | exact .inl rfl | exact .inr rfl) (fun z => nomatch z)) (egs_cons (eg_name sc_is_sound.nd rfl (by first | exact .inl rfl | exact .inr rfl) (fun z => nomatch z)) (egs_nil)))))))) 7 (gsCons_len (gsCons_len (gsCons_len (gsCons_len (gsCons_len (gsCons_len (gsCons_len (gsNil_len)))))))))) (sb_cons (ss_fz 1 (fun z => nomatch z) (ss_if (EW.t (ew_or (et_not (et_tru rfl (EO.v (eo_isi rfl rfl T.z_isinstance bb_isinstance rfl T.z_tuple bb_tuple (ev_var (pv 1)))))) (ew_or1 (et_not (et_tru rfl (EO.v (eo_B (cr_all rfl) says_all rfl T.z_all bb_all (ea_v (EO.v (eo_lc (own := [("byte", 8)]) rfl sc_is_sound.nd (ei_w rfl (ev_var (pv 1))) (by show blkC ["value", "name", "size", "kind", "kinds", "pages", "found", "deep", "byte"] (defScope s_is_sound) _ _ = true; decide +kernel) (fun _ _ _ _ _ => egw_name (by decide) sc_is_sound.nd rfl (by first | exact .inl rfl | exact .inr rfl) (fun z => nomatch z)) (fun _ _ _ _ _ tk => ets_nil) (fun _ _ _ _ _ tk => eo_call (ok_is_between T) tk (hr.mono (by decide)) rfl T.m_is_between T.f_is_between.kp T.i_is_between (ea_v (ev_var (pv 8)) (ea_o (eo_int) (ea_o (eo_int) (ea_nil))))) (fun _ _ z => nomatch z))) (ea_nil))))))))) (sb_one (ss_ret (eo_bl))) (sb_nil))) (sb_cons (ss_if (EW.t (ew_or (et_not (et_tru rfl (EO.v (eo_call (ok_is_between T) tk (hr.mono (by decide)) rfl T.m_is_between T.f_is_between.kp T.i_is_between (ea_v (ev_var (pv 2)) (ea_o (eo_int) (ea_o (eo_g rfl T.g_MOST_SIZE) (ea_nil)))))))) (ew_or1 (et_not (et_tru rfl (EO.v (eo_call (ok_is_between T) tk (hr.mono (by decide)) rfl T.m_is_between T.f_is_between.kp T.i_is_between (ea_v (ev_var (pv 5)) (ea_o (eo_int) (ea_o (eo_g rfl T.g_MOST_PAGES) (ea_nil))))))))))) (sb_one (ss_ret (eo_bl))) (sb_nil)) (sb_cons (ss_if (et_not (et_tru rfl (EO.v (eo_call (ok_is_between T) tk (hr.mono (by decide)) rfl T.m_is_between T.f_is_between.kp T.i_is_between (ea_v (ev_var (pv 7)) (ea_o (eo_int) (ea_o (eo_g rfl T.g_MOST_DEPTH) (ea_nil)))))))) (sb_one (ss_ret (eo_bl))) (sb_nil)) (sb_one (ss_ret (EV.o (ev_and rfl (EO.v (eo_call (ok_is_kind T) tk (hr.mono (by decide)) rfl T.m_is_kind T.f_is_kind.kp T.i_is_kind (ea_v (ev_var (pv 3)) (ea_v (ev_var (pv 4)) (ea_nil))))) (ev_one (EO.v (eo_call (ok_are_words T) tk (hr.mono (by decide)) rfl T.m_are_words T.f_are_words.kp T.i_are_words (ea_v (ev_var (pv 6)) (ea_o (eo_g rfl T.g_ACTS) (ea_nil))))))))))))))
theorem ok__law_words (T : Txt K mg A) : FnOk P w K mg base (L2.CX P w) 1 A.a__law_words A.fd__law_words ["_law_value", "_law_words_here"] (spD (kx K) (ec A) 2 d__law_words) := by
  refine fn_ok 0 2 3 (kx K) (ec A) rfl rfl T.f__law_words sc__law_words (b := b__law_words) fun cdv A' outer s H Ew He F0 v0 W hr tk hp => ?_
  exact sb_cons (ss_if (et_not (et_tru rfl (EO.v (eo_isi rfl rfl T.z_isinstance bb_isinstance rfl T.z_tuple bb_tuple (ev_var (pv 0)))))) (sb_one (ss_ret (eo_bl))) (sb_nil)) (sb_cons (ss_for hp rfl (ei_w rfl (ev_var (pv 0))) (eg_name sc__law_words.nd rfl (by first | exact .inl rfl | exact .inr rfl) (fun z => nomatch z)) (b := lp__law_words_1) (sb_one (ss_if (EW.t (ew_or (et_not (et_tru rfl (EO.v (eo_isi rfl rfl T.z_isinstance bb_isinstance rfl T.z_str bb_str (ev_var (pv 2)))))) (ew_or1 (et_notIn rfl (room65 hr) (ev_var (pv 2)) (ev_var (pv 1)))))) (sb_one (ss_ret (eo_bl))) (sb_nil)))) (sb_one (ss_ret (eo_bl))))
theorem ok__law_kind_fits (T : Txt K mg A) : FnOk P w K mg base (L2.CX P w) 2 A.a__law_kind_fits A.fd__law_kind_fits ["_law_kind", "_law_kinds_here"] (spD (kx K) (ec A) 2 d__law_kind_fits) := by
  refine fn_ok 1 2 5 (kx K) (ec A) rfl rfl T.f__law_kind_fits sc__law_kind_fits (b := b__law_kind_fits) fun cdv A' outer s H Ew He F0 v0 W hr tk hp => ?_
  exact sb_cons (ss_if (EW.t (ew_or (et_not (et_tru rfl (EO.v (eo_call (ok__law_words T) tk (hr.mono (by decide)) rfl T.m__law_words T.f__law_words.kp T.i__law_words (ea_v (ev_var (pv 1)) (ea_o (eo_call0 (ok__law_kinds T) tk (hr.mono (by decide)) rfl T.m__law_kinds T.f__law_kinds.kp T.i__law_kinds) (ea_nil))))))) (ew_or1 (et_not (et_tru rfl (EO.v (eo_isi rfl rfl T.z_isinstance bb_isinstance rfl T.z_str bb_str (ev_var (pv 0))))))))) (sb_one (ss_ret (eo_bl))) (sb_nil)) (sb_cons (ss_setLc (own := [("_law_word", 4)]) rfl sc__law_kind_fits.nd rfl rfl (fun z => nomatch z) rfl rfl rfl (by decide +kernel) (ei_w rfl (ev_var (pv 1))) (by show blkC ["_law_kind", "_law_kinds_here", "_law_single", "_law_due_here", "_law_word"] (defScope s__law_kind_fits) _ _ = true; decide +kernel) (fun _ _ _ _ _ => egw_name (by decide) sc__law_kind_fits.nd rfl (by first | exact .inl rfl | exact .inr rfl) (fun z => nomatch z)) (fun _ _ _ _ _ tk => ets_one (et_notIn rfl (room65 hr) (ev_var (pv 4)) (EO.v (eo_lst (ea_o (eo_str) (ea_o (eo_str) (ea_nil))))))) (fun _ _ _ _ _ tk => EV.o (ev_var (pv 4))) (fun _ _ z => nomatch z)) (sb_cons (ss_setLc (own := [("_law_word", 4)]) rfl sc__law_kind_fits.nd rfl rfl (fun z => nomatch z) rfl rfl rfl (by decide +kernel) (ei_o rfl (eo_call0 (ok__law_kinds T) tk (hr.mono (by decide)) rfl T.m__law_kinds T.f__law_kinds.kp T.i__law_kinds)) (by show blkC ["_law_kind", "_law_kinds_here", "_law_single", "_law_due_here", "_law_word"] (defScope s__law_kind_fits) _ _ = true; decide +kernel) (fun _ _ _ _ _ => egw_name (by decide) sc__law_kind_fits.nd rfl (by first | exact .inl rfl | exact .inr rfl) (fun z => nomatch z)) (fun _ _ _ _ _ tk => ets_one (et_in rfl (room65 hr) (ev_var (pv 4)) (ev_var (pv 1)))) (fun _ _ _ _ _ tk => EV.o (ev_var (pv 4))) (fun _ _ z => nomatch z)) (sb_cons (ss_if (EW.t (ew_or (et_ne rfl hr.units (EO.v (eo_T call_list_of says_list rfl T.z_list bb_list (ea_v (ev_var (pv 1)) (ea_nil)))) (ev_var (pv 3))) (ew_or1 (et_gt (EO.v (eo_B call_len says_len rfl T.z_len bb_len (ea_v (ev_var (pv 2)) (ea_nil)))) (EO.v (eo_int)))))) (sb_one (ss_ret (eo_bl))) (sb_nil)) (sb_cons (ss_if (et_eq rfl hr.units (EO.v (eo_B call_len says_len rfl T.z_len bb_len (ea_v (ev_var (pv 2)) (ea_nil)))) (EO.v (eo_int))) (sb_one (ss_ret (eo_eq rfl hr.units (ev_var (pv 0)) (ev_ix rfl (ev_var (pv 2)) (EO.v (eo_int)))))) (sb_nil)) (sb_cons (ss_if (et_eq rfl hr.units (EO.v (eo_B call_len says_len rfl T.z_len bb_len (ea_v (ev_var (pv 1)) (ea_nil)))) (EO.v (eo_int))) (sb_one (ss_ret (eo_eq rfl hr.units (ev_var (pv 0)) (EO.v (eo_str))))) (sb_nil)) (sb_one (ss_ret (eo_in rfl (room65 hr) (ev_var (pv 0)) (ev_var (pv 1))))))))))
theorem ok__law_is_integer (T : Txt K mg A) : FnOk P w K mg base (L2.CX P w) 1 A.a__law_is_integer A.fd__law_is_integer ["_law_actual"] (spD (kx K) (ec A) 1 d__law_is_integer) := by
  refine fn_ok 0 1 1 (kx K) (ec A) rfl rfl T.f__law_is_integer sc__law_is_integer (b := b__law_is_integer) fun cdv A' outer s H Ew He F0 v0 W hr tk hp => ?_
  exact sb_one (ss_ret (EV.o (ev_and rfl (EO.v (eo_isi rfl rfl T.z_isinstance bb_isinstance rfl T.z_int bb_int (ev_var (pv 0)))) (ev_one (EO.v (eo_not rfl (EO.v (eo_isi rfl rfl T.z_isinstance bb_isinstance rfl T.z_bool bb_bool (ev_var (pv 0))))))))))
theorem ok__law_number (T : Txt K mg A) : FnOk P w K mg base (L2.CX P w) 2 A.a__law_number A.fd__law_number ["_law_value", "_law_most"] (spD (kx K) (ec A) 2 d__law_number) := by
  refine fn_ok 1 2 2 (kx K) (ec A) rfl rfl T.f__law_number sc__law_number (b := b__law_number) fun cdv A' outer s H Ew He F0 v0 W hr tk hp => ?_
  exact sb_one (ss_ret (EV.o (ev_and rfl (EO.v (eo_call (ok__law_is_integer T) tk (hr.mono (by decide)) rfl T.m__law_is_integer T.f__law_is_integer.kp T.i__law_is_integer (ea_v (ev_var (pv 0)) (ea_nil)))) (ev_one (EO.v (eo_chain op_le says_cmp op_le says_cmp (by with_unfolding_all rfl) (EO.v (eo_int)) (ev_var (pv 0)) (ev_var (pv 1))))))))
theorem ok__law_due (T : Txt K mg A) : FnOk P w K mg base (L2.CX P w) 3 A.a__law_due A.fd__law_due ["_law_value"] (spD (kx K) (ec A) 1 d__law_due) := by
  refine fn_ok 2 1 2 (kx K) (ec A) rfl rfl T.f__law_due sc__law_due (b := b__law_due) fun cdv A' outer s H Ew He F0 v0 W hr tk hp => ?_
  exact sb_cons (ss_if (EW.t (ew_or (et_not (et_tru rfl (EO.v (eo_isi rfl rfl T.z_isinstance bb_isinstance rfl T.z_tuple bb_tuple (ev_var (pv 0)))))) (ew_or1 (et_ne rfl hr.units (EO.v (eo_B call_len says_len rfl T.z_len bb_len (ea_v (ev_var (pv 0)) (ea_nil)))) (EO.v (eo_int)))))) (sb_one (ss_ret (eo_bl))) (sb_nil)) (sb_cons (ss_if (EW.t (ew_or (et_not (et_tru rfl (EO.v (eo_isi rfl rfl T.z_isinstance bb_isinstance rfl T.z_tuple bb_tuple (ev_ix rfl (ev_var (pv 0)) (EO.v (eo_int))))))) (ew_or1 (et_gt (EO.v (eo_B call_len says_len rfl T.z_len bb_len (ea_v (EO.v (eo_lc (own := [("_law_byte", 1)]) rfl sc__law_due.nd (ei_w rfl (ev_ix rfl (ev_var (pv 0)) (EO.v (eo_int)))) (by show blkC ["_law_value", "_law_byte"] (defScope s__law_due) _ _ = true; decide +kernel) (fun _ _ _ _ _ => egw_name (by decide) sc__law_due.nd rfl (by first | exact .inl rfl | exact .inr rfl) (fun z => nomatch z)) (fun _ _ _ _ _ tk => ets_one (et_not (et_tru rfl (EO.v (eo_call (ok__law_number T) tk (hr.mono (by decide)) rfl T.m__law_number T.f__law_number.kp T.i__law_number (ea_v (ev_var (pv 1)) (ea_o (eo_int) (ea_nil)))))))) (fun _ _ _ _ _ tk => EV.o (ev_var (pv 1))) (fun _ _ z => nomatch z))) (ea_nil)))) (EO.v (eo_int)))))) (sb_one (ss_ret (eo_bl))) (sb_nil)) (sb_cons (ss_if (EW.t (ew_or (et_not (et_tru rfl (EO.v (eo_call (ok__law_number T) tk (hr.mono (by decide)) rfl T.m__law_number T.f__law_number.kp T.i__law_number (ea_v (ev_ix rfl (ev_var (pv 0)) (EO.v (eo_int))) (ea_o (eo_int) (ea_nil))))))) (ew_or (et_not (et_tru rfl (EO.v (eo_call (ok__law_number T) tk (hr.mono (by decide)) rfl T.m__law_number T.f__law_number.kp T.i__law_number (ea_v (ev_ix rfl (ev_var (pv 0)) (EO.v (eo_int))) (ea_o (eo_int) (ea_nil))))))) (ew_or1 (et_not (et_tru rfl (EO.v (eo_call (ok__law_number T) tk (hr.mono (by decide)) rfl T.m__law_number T.f__law_number.kp T.i__law_number (ea_v (ev_ix rfl (ev_var (pv 0)) (EO.v (eo_int))) (ea_o (eo_int) (ea_nil))))))))))) (sb_one (ss_ret (eo_bl))) (sb_nil)) (sb_one (ss_ret (EV.o (ev_and rfl (EO.v (eo_call (ok__law_kind_fits T) tk (hr.mono (by decide)) rfl T.m__law_kind_fits T.f__law_kind_fits.kp T.i__law_kind_fits (ea_v (ev_ix rfl (ev_var (pv 0)) (EO.v (eo_int))) (ea_v (ev_ix rfl (ev_var (pv 0)) (EO.v (eo_int))) (ea_nil))))) (ev_one (EO.v (eo_call (ok__law_words T) tk (hr.mono (by decide)) rfl T.m__law_words T.f__law_words.kp T.i__law_words (ea_v (ev_ix rfl (ev_var (pv 0)) (EO.v (eo_int))) (ea_o (eo_call0 (ok__law_acts T) tk (hr.mono (by decide)) rfl T.m__law_acts T.f__law_acts.kp T.i__law_acts) (ea_nil))))))))))))
theorem ok_law (T : Txt K mg A) : FnOk P w K mg base (L2.CX P w) 4 A.a_law A.fd_law ["_law_script"] (spD (kx K) (ec A) 1 d_law) := by
  refine fn_ok 3 1 6 (kx K) (ec A) rfl rfl T.f_law sc_law (b := b_law) fun cdv A' outer s H Ew He F0 v0 W hr tk hp => ?_
  exact sb_cons (ss_asg sc_law.nd rfl (by first | exact .inl rfl | exact .inr rfl) (fun z => nomatch z) (eo_call (ok__law_facts T) tk (hr.mono (by decide)) rfl T.m__law_facts T.f__law_facts.kp T.i__law_facts (ea_v (ev_var (pv 0)) (ea_o (eo_int) (ea_nil))))) (sb_cons (ss_if (EW.t (ew_or (et_isNot (EO.v (eo_call (ok_is_sound T) tk (hr.mono (by decide)) rfl T.m_is_sound T.f_is_sound.kp T.i_is_sound (ea_v (ev_var (pv 1)) (ea_nil)))) (EO.v (eo_bl))) (ew_or1 (et_not (et_tru rfl (EO.v (eo_call (ok__law_due T) tk (hr.mono (by decide)) rfl T.m__law_due T.f__law_due.kp T.i__law_due (ea_v (ev_var (pv 1)) (ea_nil))))))))) (sb_one (ss_ret (eo_bl))) (sb_nil)) (sb_cons (ss_setLc (own := [("_law_k", 5)]) rfl sc_law.nd rfl rfl (fun z => nomatch z) rfl rfl rfl (by decide +kernel) (ei_rng1 rfl T.z_range (ea_v (EO.v (eo_int)) (ea_nil))) (by show blkC ["_law_script", "_law_facts_here", "_law_values", "_law_value", "_law_found", "_law_k"] (defScope s_law) _ _ = true; decide +kernel) (fun _ _ _ _ _ => egw_name (by decide) sc_law.nd rfl (by first | exact .inl rfl | exact .inr rfl) (fun z => nomatch z)) (fun _ _ _ _ _ tk => ets_nil) (fun _ _ _ _ _ tk => eo_call (ok__law_replaced T) tk (hr.mono (by decide)) rfl T.m__law_replaced T.f__law_replaced.kp T.i__law_replaced (ea_v (ev_var (pv 1)) (ea_o (eo_B call_abs says_abs rfl T.z_abs bb_abs (ea_v (EO.v (eo_call (ok__law_cell T) tk (hr.mono (by decide)) rfl T.m__law_cell T.f__law_cell.kp T.i__law_cell (ea_v (ev_var (pv 0)) (ea_o (eo_add (EO.v (eo_int)) (ev_var (pv 5))) (ea_nil))))) (ea_nil))) (ea_nil)))) (fun _ _ z => nomatch z)) (sb_cons (ss_app (pv 2) (eo_call (ok__law_replaced T) tk (hr.mono (by decide)) rfl T.m__law_replaced T.f__law_replaced.kp T.i__law_replaced (ea_v (ev_ix rfl (ev_var (pv 2)) (EO.v (eo_int))) (ea_o (eo_B call_abs says_abs rfl T.z_abs bb_abs (ea_v (EO.v (eo_call (ok__law_cell T) tk (hr.mono (by decide)) rfl T.m__law_cell T.f__law_cell.kp T.i__law_cell (ea_v (ev_var (pv 0)) (ea_o (eo_int) (ea_nil))))) (ea_nil))) (ea_nil))))) (sb_cons (ss_asg sc_law.nd rfl (by first | exact .inl rfl | exact .inr rfl) (fun z => nomatch z) (eo_add (ev_var (pv 2)) (EO.vz (eo_lstM (em_o (eo_T call_list_of says_list rfl T.z_list bb_list (ea_v (ev_var (pv 1)) (ea_nil))) (em_o (eo_add (ev_var (pv 1)) (EO.v (eo_tup (ea_o (eo_int) (ea_nil))))) (em_o (eo_sl rfl (ev_var (pv 1)) (ep_no) (ep_pt (EO.v (eo_int)))) (em_o (eo_non) (em_o (eo_str) (em_o (eo_tupM (em_nil)) (em_nil))))))))))) (sb_cons (ss_fz 2 (fun z => nomatch z) (ss_for hp rfl (ei_w rfl (ev_var (pv 2))) (eg_name sc_law.nd rfl (by first | exact .inl rfl | exact .inr rfl) (fun z => nomatch z)) (b := lp_law_1) (sb_cons (ss_asg sc_law.nd rfl (by first | exact .inl rfl | exact .inr rfl) (fun z => nomatch z) (eo_call (ok_is_sound T) tk (hr.mono (by decide)) rfl T.m_is_sound T.f_is_sound.kp T.i_is_sound (ea_v (ev_var (pv 3)) (ea_nil)))) (sb_one (ss_if (EW.t (ew_or (EW.t (ew_and (et_isNot (ev_var (pv 4)) (EO.v (eo_bl))) (ew_and1 (et_isNot (ev_var (pv 4)) (EO.v (eo_bl)))))) (ew_or1 (et_ne rfl hr.units (ev_var (pv 4)) (EO.v (eo_call (ok__law_due T) tk (hr.mono (by decide)) rfl T.m__law_due T.f__law_due.kp T.i__law_due (ea_v (ev_var (pv 3)) (ea_nil)))))))) (sb_one (ss_ret (eo_bl))) (sb_nil)))))) (sb_one (ss_ret (eo_bl))))))))
end
set_option maxRecDepth 100000
set_option maxHeartbeats 4000000
open PySem PySem.Spec PyProof.Rows L2 Dv
noncomputable section
def cell (ns : List Int) (k : Nat) : Int := ns.getD k 0
theorem m_cell (ns : List Int) (k : Nat) : d__law_cell [.scr (dInts ns), .int k] = .ok (.int (cell ns k)) := by
  by_cases h : k < ns.length
  · simp [d__law_cell, b__law_cell, fnD, cell, h, ixD_nat]
  · simp [d__law_cell, b__law_cell, fnD, cell, h, ixD_nat]
theorem m_cellI (ns : List Int) (i : Int) (h : 0 ≤ i) : d__law_cell [.scr (dInts ns), .int i] = .ok (.int (cell ns i.toNat)) := by
  obtain ⟨k, rfl⟩ := Int.eq_ofNat_of_zero_le h
  exact m_cell ns k
/-- abs -/
def iabs (c : Int) : Int := if c < 0 then -c else c
theorem iabs_nn (c : Int) : 0 ≤ iabs c := by unfold iabs; split <;> omega
theorem iabs_eq (c : Int) : (if c < 0 then -c else c) = iabs c := rfl
theorem ixN_lt {n : Nat} {k : Nat} (h : k < n) : ixN n (k : Int) = some k := by
  unfold ixN
  rw [if_pos (by omega), if_pos (by omega), Int.toNat_natCast]
theorem for_rng {g : D → Dv.Env → Option Dv.Env} {b : Dv.Env → SR} (I : Nat → Dv.Env → Prop) (n : Nat) (ρ : Dv.Env) (hs : ∀ j ρ, j < n → I j ρ → ∃ ρ1 ρ2, g (.int (j : Int)) ρ = some ρ1 ∧ (b ρ1 = .nx ρ2 ∨ b ρ1 = .ct ρ2) ∧ I (j + 1) ρ2) (h0 : I 0 ρ) :
    ∃ ρ', forL g b (rngL 0 n) ρ = .nx ρ' ∧ I n ρ' := by
  obtain ⟨ρ', e, h⟩ := forL_inv (g := g) (b := b) I (rngL 0 n) 0 ρ (fun j d ρ ed h => by
    have hj : j < n := by have := (List.getElem?_eq_some_iff.mp ed).1; rwa [rngL_len] at this
    have ed' : d = .int (j : Int) := by
      unfold rngL at ed
      rw [List.getElem?_map, List.getElem?_range hj] at ed
      simpa using ed.symm
    subst ed'
    rw [Nat.zero_add] at h ⊢
    exact hs j ρ hj h) h0
  rw [rngL_len, Nat.zero_add] at h
  exact ⟨ρ', e, h⟩
/-- over a list of ints -/
theorem for_ints {g : D → Dv.Env → Option Dv.Env} {b : Dv.Env → SR} (I : Nat → Dv.Env → Prop) (xs : List Int) (ρ : Dv.Env) (hs : ∀ j x ρ, xs[j]? = some x → I j ρ → ∃ ρ1 ρ2, g (.int x) ρ = some ρ1 ∧ (b ρ1 = .nx ρ2 ∨ b ρ1 = .ct ρ2) ∧ I (j + 1) ρ2) (h0 : I 0 ρ) :
    ∃ ρ', forL g b (dInts xs) ρ = .nx ρ' ∧ I xs.length ρ' := by
  obtain ⟨ρ', e, h⟩ := forL_inv (g := g) (b := b) I (dInts xs) 0 ρ (fun j d ρ ed h => by
    rw [dInts_get] at ed
    cases ex : xs[j]? with
    | none => rw [ex] at ed; cases ed
    | some x =>
      rw [ex] at ed
      cases ed
      rw [Nat.zero_add] at h ⊢
      exact hs j x ρ ex h) h0
  rw [dInts_len, Nat.zero_add] at h
  exact ⟨ρ', e, h⟩

def dStrs (xs : List Str) : List D := xs.map D.str
theorem dStrs_eqvAll : ∀ a b : List Str, PyData.eqvAll (D.toPL (dStrs a)) (D.toPL (dStrs b)) = (a == b)
  | [], [] => rfl
  | [], m :: ms => rfl
  | n :: ns, [] => rfl
  | n :: ns, m :: ms => by
    show (PyData.eqv (.str n) (.str m) && PyData.eqvAll (D.toPL (dStrs ns)) (D.toPL (dStrs ms))) = _
    rw [dStrs_eqvAll ns ms]
    rfl
theorem dStrs_pure : ∀ a : List Str, D.pureL (dStrs a) = true
  | [] => rfl
  | n :: ns => by show (true && D.pureL (dStrs ns)) = true; rw [dStrs_pure ns]; rfl
theorem dStrs_lay (k : Nat) : ∀ a : List Str, (∀ x ∈ a, PyData.strOk x = true) → D.layL k (dStrs a) = true
  | [], _ => rfl
  | n :: ns, h => by
    show (D.lay k (.str n) && D.layL k (dStrs ns)) = true
    rw [lay_str, h n List.mem_cons_self, dStrs_lay k ns fun x hx => h x (List.mem_cons_of_mem _ hx)]; rfl
theorem gEq_strs (o p : Bool) (a b : List Str) (ha : ∀ x ∈ a, PyData.strOk x = true) (hb : ∀ x ∈ b, PyData.strOk x = true) : gEq (.lst o (dStrs a)) (.lst p (dStrs b)) = some (.bl (a == b)) := by
  have h1 : D.lay 60 (.lst o (dStrs a)) = true := dStrs_lay 59 a ha
  have h2 : D.lay 60 (.lst p (dStrs b)) = true := dStrs_lay 59 b hb
  simp only [gEq, h1, h2, and_self, if_true]
  show some (D.bl (PyData.eqvAll (D.toPL (dStrs a)) (D.toPL (dStrs b)))) = _
  rw [dStrs_eqvAll]
theorem gNe_strs (o p : Bool) (a b : List Str) (ha : ∀ x ∈ a, PyData.strOk x = true) (hb : ∀ x ∈ b, PyData.strOk x = true) : gNe (.lst o (dStrs a)) (.lst p (dStrs b)) = some (.bl (!(a == b))) := by
  have h1 : D.lay 60 (.lst o (dStrs a)) = true := dStrs_lay 59 a ha
  have h2 : D.lay 60 (.lst p (dStrs b)) = true := dStrs_lay 59 b hb
  simp only [gNe, h1, h2, and_self, if_true]
  show some (D.bl (!(PyData.eqvAll (D.toPL (dStrs a)) (D.toPL (dStrs b))))) = _
  rw [dStrs_eqvAll]

/-- a loop that looks for the first that fits -/
theorem for_find {α : Type} (f : α → D) {g : D → Dv.Env → Option Dv.Env} {b : Dv.Env → SR} (p : α → Bool) (r : α → D) (I : Dv.Env → Prop) : ∀ (as : List α) (ρ : Dv.Env),
    (∀ a ∈ as, ∀ ρ, I ρ → ∃ ρ1 ρ2, g (f a) ρ = some ρ1 ∧ ((p a = true ∧ b ρ1 = .rt (r a) ρ2) ∨ (p a = false ∧ (b ρ1 = .nx ρ2 ∨ b ρ1 = .ct ρ2) ∧ I ρ2))) → I ρ →
    (∃ a ρ', as.find? p = some a ∧ forL g b (as.map f) ρ = .rt (r a) ρ') ∨ (as.find? p = none ∧ ∃ ρ', forL g b (as.map f) ρ = .nx ρ' ∧ I ρ')
  | [], ρ, _, h => .inr ⟨rfl, ρ, rfl, h⟩
  | a :: as, ρ, hs, h => by
    obtain ⟨ρ1, ρ2, e1, e2⟩ := hs a List.mem_cons_self ρ h
    rw [List.map_cons, forL_cons, e1]
    rcases e2 with ⟨pa, e2⟩ | ⟨pa, e2, h2⟩
    · exact .inl ⟨a, ρ2, by rw [List.find?_cons, pa], by simp only [e2]⟩
    · have ih := for_find f p r I as ρ2 (fun x hx => hs x (List.mem_cons_of_mem _ hx)) h2
      rw [List.find?_cons, pa]
      rcases e2 with e2 | e2 <;> (simp only [e2]; exact ih)
/-- a loop that folds -/
theorem for_fold {α σ : Type} (f : α → D) {g : D → Dv.Env → Option Dv.Env} {b : Dv.Env → SR} (st : σ → α → σ) (I : σ → Dv.Env → Prop) : ∀ (as : List α) (s : σ) (ρ : Dv.Env),
    (∀ a ∈ as, ∀ s ρ, I s ρ → ∃ ρ1 ρ2, g (f a) ρ = some ρ1 ∧ (b ρ1 = .nx ρ2 ∨ b ρ1 = .ct ρ2) ∧ I (st s a) ρ2) → I s ρ → ∃ ρ', forL g b (as.map f) ρ = .nx ρ' ∧ I (as.foldl st s) ρ'
  | [], s, ρ, _, h => ⟨ρ, rfl, h⟩
  | a :: as, s, ρ, hs, h => by
    obtain ⟨ρ1, ρ2, e1, e2, h2⟩ := hs a List.mem_cons_self s ρ h
    rw [List.map_cons, forL_cons, e1, List.foldl_cons]
    have ih := for_fold f st I as (st s a) ρ2 (fun x hx => hs x (List.mem_cons_of_mem _ hx)) h2
    rcases e2 with e2 | e2 <;> (simp only [e2]; exact ih)
theorem cut_mid {α : Type} (xs : List α) (a n : Nat) (hi : Int) (h : hi = (a : Int) + (n : Int)) : Dv.cutD xs (some (a : Int)) (some hi) = (xs.drop a).take n := by
  subst h
  unfold Dv.cutD
  rw [show (a : Int) + (n : Int) = ((a + n : Nat) : Int) by omega, HT.sIx_nat, HT.sIx_nat]
  by_cases h : a ≤ xs.length
  · rw [show min a xs.length = a by omega]
    by_cases h2 : a + n ≤ xs.length
    · rw [show min (a + n) xs.length - a = n by omega]
    · rw [List.take_of_length_le (by rw [List.length_drop]; omega), List.take_of_length_le (by rw [List.length_drop]; omega)]
  · rw [List.drop_eq_nil_of_le (by omega), List.drop_eq_nil_of_le (by omega), List.take_nil, List.take_nil]
theorem cut_to {α : Type} (xs : List α) (n : Nat) : Dv.cutD xs none (some (n : Int)) = xs.take n := by
  unfold Dv.cutD
  rw [HT.sIx_nat, HT.sIx_none, List.drop_zero, Nat.sub_zero]
  by_cases h : n ≤ xs.length
  · rw [show min n xs.length = n by omega]
  · rw [List.take_of_length_le (by omega), List.take_of_length_le (by omega)]
theorem cut_from {α : Type} (xs : List α) (n : Nat) : Dv.cutD xs (some (n : Int)) none = xs.drop n := by
  unfold Dv.cutD
  rw [HT.sIx_nat, HT.sIx_none]
  by_cases h : n ≤ xs.length
  · rw [show min n xs.length = n by omega, List.take_of_length_le (by rw [List.length_drop]; omega)]
  · rw [List.drop_eq_nil_of_le (by omega), List.drop_eq_nil_of_le (by omega), List.take_nil]
theorem forL_nx {g : D → Dv.Env → Option Dv.Env} {b : Dv.Env → SR} {d : D} {ds : List D} {ρ ρ1 ρ2 : Dv.Env} {r : SR} (e1 : g d ρ = some ρ1) (e2 : b ρ1 = .nx ρ2) (e3 : forL g b ds ρ2 = r) : forL g b (d :: ds) ρ = r := by
  rw [forL_cons, e1]
  simp only [e2]
  exact e3
theorem ix0 (d : D) (ds : List D) : ixD (d :: ds) 0 = some d := rfl
theorem for_rngL {g : D → Dv.Env → Option Dv.Env} {b : Dv.Env → SR} (I : Nat → Dv.Env → Prop) (lo : Int) (n : Nat) (ρ : Dv.Env) (hs : ∀ j ρ, j < n → I j ρ → ∃ ρ1 ρ2, g (.int (lo + (j : Int))) ρ = some ρ1 ∧ (b ρ1 = .nx ρ2 ∨ b ρ1 = .ct ρ2) ∧ I (j + 1) ρ2) (h0 : I 0 ρ) :
    ∃ ρ', forL g b (rngL lo n) ρ = .nx ρ' ∧ I n ρ' := by
  obtain ⟨ρ', e, h⟩ := forL_inv (g := g) (b := b) I (rngL lo n) 0 ρ (fun j d ρ ed h => by
    have hj : j < n := by have := (List.getElem?_eq_some_iff.mp ed).1; rwa [rngL_len] at this
    have ed' : d = .int (lo + (j : Int)) := by
      unfold rngL at ed
      rw [List.getElem?_map, List.getElem?_range hj] at ed
      simpa using ed.symm
    subst ed'
    rw [Nat.zero_add] at h ⊢
    exact hs j ρ hj h) h0
  rw [rngL_len, Nat.zero_add] at h
  exact ⟨ρ', e, h⟩

theorem for_find2 {α : Type} (f : α → D) {g : D → Dv.Env → Option Dv.Env} {b : Dv.Env → SR} (p : α → Bool) (r : α → D) (I : Dv.Env → Prop) (as : List α) (ρ : Dv.Env)
    (hs : ∀ a ∈ as, ∀ ρ, I ρ → ∃ ρ1 ρ2, g (f a) ρ = some ρ1 ∧ b ρ1 = (if p a = true then .rt (r a) ρ2 else .nx ρ2) ∧ I ρ2) (h : I ρ) :
    (∃ a ρ', as.find? p = some a ∧ forL g b (as.map f) ρ = .rt (r a) ρ') ∨ (as.find? p = none ∧ ∃ ρ', forL g b (as.map f) ρ = .nx ρ' ∧ I ρ') :=
  for_find f p r I as ρ (fun a ha ρ hρ => by
    obtain ⟨ρ1, ρ2, e1, e2, e3⟩ := hs a ha ρ hρ
    refine ⟨ρ1, ρ2, e1, ?_⟩
    cases hp : p a with
    | true => rw [hp, if_pos rfl] at e2; exact .inl ⟨rfl, e2⟩
    | false => rw [hp, if_neg Bool.false_ne_true] at e2; exact .inr ⟨rfl, .inl e2, e3⟩) h

def sim : D → Bool
  | .non => true | .bl _ => true | .int _ => true | .str _ => true
  | .tup xs => D.pureL xs
  | .lst o xs => !o && D.pureL xs
  | _ => false
theorem sim_pure : ∀ d : D, sim d = true → d.pure = true
  | .non, _ => rfl | .bl _, _ => rfl | .int _, _ => rfl | .str _, _ => rfl
  | .tup _, h => h
  | .lst _ _, h => h
theorem sims_pure : ∀ xs : List D, (∀ x ∈ xs, sim x = true) → D.pureL xs = true
  | [], _ => rfl
  | x :: xs, h => by rw [pureL_cons, sim_pure x (h x List.mem_cons_self), sims_pure xs fun y hy => h y (List.mem_cons_of_mem _ hy)]; rfl
def isI : D → Bool
  | .int _ => true
  | _ => false
theorem m_isI (d : D) (h : sim d = true) : d_is_integer [d] = .ok (.bl (isI d)) := by
  cases d with
  | lst o xs =>
    cases o with
    | true => cases h
    | false => simp [d_is_integer, b_is_integer, fnD, isI]
  | scr _ => cases h
  | dic _ _ _ => cases h
  | dit _ _ _ => cases h
  | ins _ _ _ => cases h
  | _ => simp [d_is_integer, b_is_integer, fnD, isI]
theorem m_lisI (d : D) (h : sim d = true) : d__law_is_integer [d] = .ok (.bl (isI d)) := by
  cases d with
  | lst o xs =>
    cases o with
    | true => cases h
    | false => simp [d__law_is_integer, b__law_is_integer, fnD, isI]
  | scr _ => cases h
  | dic _ _ _ => cases h
  | dit _ _ _ => cases h
  | ins _ _ _ => cases h
  | _ => simp [d__law_is_integer, b__law_is_integer, fnD, isI]
def isB (m : Int) : D → Bool
  | .int i => decide (0 ≤ i) && decide (i ≤ m)
  | _ => false
theorem btw_core (d : D) (m : Int) (p : d.pure = true) (h : d_is_integer [d] = .ok (.bl false)) : d_is_between [d, .int 0, .int m] = .ok (.bl false) := by
  simp [d_is_between, b_is_between, fnD, callF, p, h]
theorem m_btw (d : D) (m : Int) (h : sim d = true) : d_is_between [d, .int 0, .int m] = .ok (.bl (isB m d)) := by
  have e := m_isI d h
  cases d with
  | int i =>
    have e' : d_is_integer [.int i] = .ok (.bl true) := e
    by_cases a : 0 ≤ i <;> by_cases b : i ≤ m <;> simp [d_is_between, b_is_between, fnD, callF, e', e3, isB, a, b]
  | scr _ => cases h
  | dic _ _ _ => cases h
  | dit _ _ _ => cases h
  | ins _ _ _ => cases h
  | _ => exact btw_core _ m (sim_pure _ h) e
theorem num_core (d : D) (m : Int) (p : d.pure = true) (h : d__law_is_integer [d] = .ok (.bl false)) : d__law_number [d, .int m] = .ok (.bl false) := by
  simp [d__law_number, b__law_number, fnD, callF, p, h]
theorem m_num (d : D) (m : Int) (h : sim d = true) : d__law_number [d, .int m] = .ok (.bl (isB m d)) := by
  have e := m_lisI d h
  cases d with
  | int i =>
    have e' : d__law_is_integer [.int i] = .ok (.bl true) := e
    by_cases a : 0 ≤ i <;> by_cases b : i ≤ m <;> simp [d__law_number, b__law_number, fnD, callF, e', e3, isB, a, b]
  | scr _ => cases h
  | dic _ _ _ => cases h
  | dit _ _ _ => cases h
  | ins _ _ _ => cases h
  | _ => exact num_core _ m (sim_pure _ h) e
/-! words -/
theorem txs_strs : ∀ W : List Str, txs (dStrs W) = some W
  | [] => rfl
  | w :: W => by
    show txs (.str w :: dStrs W) = _
    rw [txs_cons, txs_strs W]; rfl
def isW (W : List Str) : D → Bool
  | .str s => W.any (· == s)
  | _ => false
theorem in_tup (W : List Str) (s : Str) : gIn (.str s) (.tup (dStrs W)) = some (.bl (W.any (· == s))) := by
  show ((inB (.str s) (.tup (dStrs W))).map fun b => D.bl b) = _
  have : inB (.str s) (.tup (dStrs W)) = some (W.any (· == s)) := by
    show (match D.str s, txs (dStrs W) with
      | .str x, some ss => some (ss.any (· == x))
      | _, _ => _) = _
    rw [txs_strs]
  rw [this]; rfl
theorem in_lst (o : Bool) (W : List Str) (s : Str) : gIn (.str s) (.lst o (dStrs W)) = some (.bl (W.any (· == s))) ∧ gNotIn (.str s) (.lst o (dStrs W)) = some (.bl (!W.any (· == s))) := by
  have : inB (.str s) (.lst o (dStrs W)) = some (W.any (· == s)) := by
    show (match D.str s, txs (dStrs W) with
      | .str x, some ss => some (ss.any (· == x))
      | _, _ => _) = _
    rw [txs_strs]
  unfold gIn gNotIn
  rw [this]
  exact ⟨rfl, rfl⟩
theorem aw_item (v : D) (W : List Str) (d : D) (h : sim d = true) : asOwn (eAnd (eIsi "str" (eVar 2)) (e2 gIn (eVar 2) (eVar 1))) [some v, some (.tup (dStrs W)), some d] = .ok (.bl (isW W d)) := by
  cases d with
  | str s =>
    have := in_tup W s
    simp [this, isW]
  | lst o xs =>
    cases o with
    | true => cases h
    | false => simp [isW]
  | scr _ => cases h
  | dic _ _ _ => cases h
  | dit _ _ _ => cases h
  | ins _ _ _ => cases h
  | _ => simp [isW]
def words (W : List Str) : D → Bool
  | .tup xs => xs.all (isW W)
  | _ => false
theorem lBls_map (f : D → Bool) : ∀ xs : List D, lBls (xs.map fun d => D.bl (f d)) = some (xs.map f)
  | [] => rfl
  | x :: xs => by
    rw [List.map_cons]
    show ((lBls (xs.map fun d => D.bl (f d))).map fun r => f x :: r) = _
    rw [lBls_map f xs]; rfl
theorem all_id (f : D → Bool) (xs : List D) : (xs.map f).all id = xs.all f := by rw [List.all_map]; rfl
theorem aw_core (xs : List D) (W : List Str) (p : D.pureL xs = true) (h : lcL (gNm 2) tYes (asOwn (eAnd (eIsi "str" (eVar 2)) (e2 gIn (eVar 2) (eVar 1)))) [some (.tup xs), some (.tup (dStrs W)), none] xs [] = .ok (.lst true (xs.map fun d => D.bl (isW W d)))) : d_are_words [.tup xs, .tup (dStrs W)] = .ok (.bl (words W (.tup xs))) := by
  have e := lBls_map (isW W) xs
  have e2 := all_id (isW W) xs
  simp [d_are_words, b_are_words, fnD, p, h, e, e2, words]
theorem m_words (d : D) (W : List Str) (h : sim d = true) (hx : ∀ xs, d = .tup xs → (∀ x ∈ xs, sim x = true) ∧ xs.length ≤ 1000) : d_are_words [d, .tup (dStrs W)] = .ok (.bl (words W d)) := by
  cases d with
  | tup xs =>
    obtain ⟨hs, hl⟩ := hx xs rfl
    refine aw_core xs W h ?_
    rw [lcL_map (fun d => .bl (isW W d)) xs (fun d hd => ⟨[some (.tup xs), some (.tup (dStrs W)), some d], rfl, rfl, aw_item _ W d (hs d hd)⟩) (by omega)]
  | lst o xs =>
    cases o with
    | true => cases h
    | false => simp [d_are_words, b_are_words, fnD, words]
  | scr _ => cases h
  | dic _ _ _ => cases h
  | dit _ _ _ => cases h
  | ins _ _ _ => cases h
  | _ => simp [d_are_words, b_are_words, fnD, words]

end
set_option maxRecDepth 100000
set_option maxHeartbeats 4000000
open PySem PySem.Spec PyProof.Rows L2 Dv
noncomputable section
theorem lw_item (v : D) (W : List Str) (d : D) (h : sim d = true) : lp__law_words_1 [some v, some (.lst false (dStrs W)), some d] = if (!isW W d) = true then .rt (.bl false) [some v, some (.lst false (dStrs W)), some d] else .nx [some v, some (.lst false (dStrs W)), some d] := by
  cases d with
  | str s =>
    have := (in_lst false W s).2
    cases q : W.any (· == s) with
    | true => rw [q] at this; simp [lp__law_words_1, this, isW, q]
    | false => rw [q] at this; simp [lp__law_words_1, this, isW, q]
  | lst o xs =>
    cases o with
    | true => cases h
    | false => simp [lp__law_words_1, isW]
  | scr _ => cases h
  | dic _ _ _ => cases h
  | dit _ _ _ => cases h
  | ins _ _ _ => cases h
  | _ => simp [lp__law_words_1, isW]
theorem lw_core (xs : List D) (W : List Str) (p : D.pureL xs = true) (b : Bool) (h : (b = false ∧ ∃ ρ, forL (gNm 2) lp__law_words_1 xs [some (.tup xs), some (.lst false (dStrs W)), none] = .rt (.bl false) ρ) ∨ (b = true ∧ ∃ ρ, forL (gNm 2) lp__law_words_1 xs [some (.tup xs), some (.lst false (dStrs W)), none] = .nx ρ)) : d__law_words [.tup xs, .lst false (dStrs W)] = .ok (.bl b) := by
  rcases h with ⟨rfl, ρ, h⟩ | ⟨rfl, ρ, h⟩
  · simp [d__law_words, b__law_words, fnD, p, h]
  · simp [d__law_words, b__law_words, fnD, p, h]
theorem m_lwords (d : D) (W : List Str) (h : sim d = true) (hx : ∀ xs, d = .tup xs → (∀ x ∈ xs, sim x = true) ∧ xs.length ≤ 1000) : d__law_words [d, .lst false (dStrs W)] = .ok (.bl (words W d)) := by
  cases d with
  | tup xs =>
    obtain ⟨hs, hl⟩ := hx xs rfl
    refine lw_core xs W h _ ?_
    have f := for_find2 (fun d : D => d) (g := gNm 2) (b := lp__law_words_1) (fun d => !isW W d) (fun _ => .bl false) (fun ρ => ∃ z, ρ = [some (.tup xs), some (.lst false (dStrs W)), z]) xs [some (.tup xs), some (.lst false (dStrs W)), none] (fun d hd ρ hρ => by
      obtain ⟨z, rfl⟩ := hρ
      exact ⟨_, _, rfl, lw_item _ W d (hs d hd), _, rfl⟩) ⟨none, rfl⟩
    rw [show (xs.map fun d : D => d) = xs from List.map_id xs] at f
    have key : words W (.tup xs) = !(xs.find? fun d => !isW W d).isSome := by
      show xs.all (isW W) = _
      rw [List.isSome_find?, List.all_eq_not_any_not]
    rcases f with ⟨a, ρ', hf, e⟩ | ⟨hf, ρ', e, _⟩
    · exact .inl ⟨by rw [key, hf]; rfl, ρ', e⟩
    · exact .inr ⟨by rw [key, hf]; rfl, ρ', e⟩
  | lst o xs =>
    cases o with
    | true => cases h
    | false => simp [d__law_words, b__law_words, fnD, words]
  | scr _ => cases h
  | dic _ _ _ => cases h
  | dit _ _ _ => cases h
  | ins _ _ _ => cases h
  | _ => simp [d__law_words, b__law_words, fnD, words]
def nameOK : D → Bool
  | .tup xs => xs.all (isB 255)
  | _ => false
/-! kinds -/
def KS : List Str := [Str.ofString "still", Str.ofString "picture", Str.ofString "film", Str.ofString "sheet", Str.ofString "folio", Str.ofString "crate"]
def AS : List Str := [Str.ofString "open", Str.ofString "file", Str.ofString "link", Str.ofString "form", Str.ofString "fetch", Str.ofString "script"]
theorem KS_D : c_KINDS = .tup (dStrs KS) := rfl
theorem AS_D : c_ACTS = .tup (dStrs AS) := rfl
theorem m_kinds : d__law_kinds [] = .ok (.lst true (dStrs KS)) := by
  simp [d__law_kinds, b__law_kinds, fnD]; rfl
theorem m_acts : d__law_acts [] = .ok (.lst true (dStrs AS)) := by
  simp [d__law_acts, b__law_acts, fnD]; rfl
def pl (s : Str) : Nat := (KS.findIdx? (· == s)).getD 0
def plD : D → D
  | .str s => .int (pl s : Int)
  | d => d
def Ps (ws : List Str) : List Int := ws.map fun s => (pl s : Int)
theorem idx_KS (s : Str) (h : KS.any (· == s) = true) : idxD c_KINDS (.str s) = some (pl s) := by
  rw [KS_D]
  show ((txs (dStrs KS)).bind fun ss => ss.findIdx? (· == s)) = _
  rw [txs_strs]
  show KS.findIdx? (· == s) = some ((KS.findIdx? (· == s)).getD 0)
  cases q : KS.findIdx? (· == s) with
  | none =>
    rw [List.findIdx?_eq_none_iff] at q
    obtain ⟨x, hx, e⟩ := List.any_eq_true.mp h
    rw [q x hx] at e; cases e
  | some k => rfl
theorem pl_lc (k κ : D) (x2 x3 x4 x6 : Option D) (ws : List Str) (h : ∀ s ∈ ws, KS.any (· == s) = true) (hl : ws.length ≤ 1000) : lcL (gNm 5) tYes (eIdx c_KINDS (eVar 5)) [some k, some κ, x2, x3, x4, none, x6] (dStrs ws) [] = .ok (.lst true (dInts (Ps ws))) := by
  rw [lcL_map plD (dStrs ws) (fun d hd => by
    obtain ⟨s, hs, rfl⟩ := List.mem_map.mp hd
    refine ⟨[some k, some κ, x2, x3, x4, some (.str s), x6], rfl, rfl, ?_⟩
    have := idx_KS s (h s hs)
    simp [this, plD]) (by show (ws.map D.str).length ≤ _; rw [List.length_map]; omega)]
  unfold dStrs dInts Ps
  rw [List.map_map, List.map_map]; rfl
def ltD (d : D) : Bool := match d with
  | .int i => decide (i < 4)
  | _ => false
theorem lt_lc (k κ : D) (x2 x3 x4 x5 : Option D) (P : List Int) (hl : P.length ≤ 1000) : lcL (gNm 6) (eT (e2 gLt (eVar 6) (eC c_SINGLE))) (asOwn (eVar 6)) [some k, some κ, x2, x3, x4, x5, none] (dInts P) [] = .ok (.lst true (dInts (P.filter fun i => decide (i < 4)))) := by
  rw [lcL_of ltD (fun d => d) (dInts P) [] (fun d hd => by
    obtain ⟨i, _, rfl⟩ := List.mem_map.mp hd
    refine ⟨[some k, some κ, x2, x3, x4, x5, some (.int i)], rfl, ?_, fun _ => ?_⟩
    · simp [ltD, c_SINGLE]
    · simp) (by rw [dInts_len]; simp; omega), List.nil_append]
  have : ∀ xs : List Int, ((dInts xs).filter ltD).map (fun d => d) = dInts (xs.filter fun i => decide (i < 4)) := by
    intro xs
    induction xs with
    | nil => rfl
    | cons x xs ih =>
      rw [dInts_cons, List.filter_cons, List.filter_cons]
      show (if decide (x < 4) = true then _ else _ : List D).map _ = dInts (if decide (x < 4) = true then _ else _)
      by_cases q : decide (x < 4) = true
      · rw [if_pos q, if_pos q, List.map_cons, ih]; rfl
      · rw [if_neg q, if_neg q, ih]
  rw [this]
theorem sort_eq (P : List Int) : (P == sortI P) = decide (P.Pairwise (· ≤ ·)) := by
  by_cases h : P.Pairwise (· ≤ ·)
  · rw [decide_eq_true h, ← sorted_unique (sortI_perm P).symm h (sortI_sorted P)]; simp
  · rw [decide_eq_false h]
    exact beq_false_of_ne fun e => h (e ▸ sortI_sorted P)
/-- two neighbours are alike -/
def adj : List Int → Bool
  | a :: b :: r => (a == b) || adj (b :: r)
  | _ => false
theorem ad_step (k κ x2 : Option D) (x5 x6 : Option D) (a b : Int) : lp_is_kind_1 [k, κ, x2, some (.int a), some (.int b), x5, x6] = if (a == b) = true then .rt (.bl false) [k, κ, x2, some (.int a), some (.int b), x5, x6] else .nx [k, κ, x2, some (.int a), some (.int b), x5, x6] := by
  by_cases h : a = b
  · subst h; simp [lp_is_kind_1]
  · simp [lp_is_kind_1, h]
theorem forL_rt {g : D → Dv.Env → Option Dv.Env} {b : Dv.Env → SR} {d r : D} {ds : List D} {ρ ρ1 ρ2 : Dv.Env} (e1 : g d ρ = some ρ1) (e2 : b ρ1 = .rt r ρ2) : forL g b (d :: ds) ρ = .rt r ρ2 := by
  rw [forL_cons, e1]
  simp only [e2]
theorem zip_cons2 (a b : Int) (r : List Int) : zipD (dInts (a :: b :: r)) (dInts (b :: r)) = .tup [.int a, .int b] :: zipD (dInts (b :: r)) (dInts r) := rfl
theorem ad_loop (k κ x2 x5 x6 : Option D) : ∀ (P : List Int) (z3 z4 : Option D), (adj P = true ∧ ∃ ρ, forL (gTp (gsCons (gNm 3) (gsCons (gNm 4) (gsNil)))) lp_is_kind_1 (zipD (dInts P) (dInts (P.drop 1))) [k, κ, x2, z3, z4, x5, x6] = .rt (.bl false) ρ) ∨ (adj P = false ∧ ∃ z3' z4', forL (gTp (gsCons (gNm 3) (gsCons (gNm 4) (gsNil)))) lp_is_kind_1 (zipD (dInts P) (dInts (P.drop 1))) [k, κ, x2, z3, z4, x5, x6] = .nx [k, κ, x2, z3', z4', x5, x6])
  | [], z3, z4 => .inr ⟨rfl, z3, z4, rfl⟩
  | [a], z3, z4 => .inr ⟨rfl, z3, z4, rfl⟩
  | a :: b :: r, z3, z4 => by
    have s := ad_step k κ x2 x5 x6 a b
    show (adj (a :: b :: r) = true ∧ ∃ ρ, forL _ _ (zipD (dInts (a :: b :: r)) (dInts (b :: r))) _ = _) ∨ (adj (a :: b :: r) = false ∧ ∃ z3' z4', forL _ _ (zipD (dInts (a :: b :: r)) (dInts (b :: r))) _ = _)
    rw [zip_cons2]
    by_cases h : (a == b) = true
    · rw [if_pos h] at s
      exact .inl ⟨by rw [adj, h]; rfl, _, forL_rt rfl s⟩
    · rw [if_neg h] at s
      have ih := ad_loop k κ x2 x5 x6 (b :: r) (some (.int a)) (some (.int b))
      rw [show adj (a :: b :: r) = adj (b :: r) by rw [adj, eq_false_of_ne_true h]; rfl]
      rcases ih with ⟨i1, ρ, i2⟩ | ⟨i1, y3, y4, i2⟩
      · exact .inl ⟨i1, ρ, forL_nx rfl s i2⟩
      · exact .inr ⟨i1, y3, y4, forL_nx rfl s i2⟩
def pc_b_is_kind_1 : Dv.Env → SR := sIf (tOrF (tNotF (eT (eCall 2 d_are_words (aV (eVar 1) (aO (eC c_KINDS) (aNil)))))) (tNotF (eT (eIsi "str" (eVar 0))))) (sRet (eC (.bl false))) (sNil)
def pc_b_is_kind_2 : Dv.Env → SR := sAsg 2 (eLc (iW (eVar 1)) (gNm 5) (tYes) (eIdx c_KINDS (eVar 5)) [5])
def pc_b_is_kind_3 : Dv.Env → SR := sFz 2 (sIf (tOrF (eT (e2 gNe (eVar 2) (eB gSorted (aV (eVar 2) (aNil))))) (eT (e2 gGt (eB gLen (aV (eLc (iW (eVar 2)) (gNm 6) (eT (e2 gLt (eVar 6) (eC c_SINGLE))) (asOwn (eVar 6)) [6]) (aNil))) (eC (.int 1))))) (sRet (eC (.bl false))) (sNil))
def pc_b_is_kind_4 : Dv.Env → SR := sFz 2 (sFor (iA zip2 (aV (eVar 2) (aV (eFz (eSl (eVar 2) (oPt (eC (.int 1))) (oNo))) (aNil)))) (gTp (gsCons (gNm 3) (gsCons (gNm 4) (gsNil)))) lp_is_kind_1)
def pc_b_is_kind_5 : Dv.Env → SR := sIf (eT (e2 gEq (eVar 1) (eTup (aNil)))) (sRet (e2 gEq (eVar 0) (eC (.str "")))) (sNil)
def pc_b_is_kind_6 : Dv.Env → SR := sIf (eT (e2 gLt (e2 gIx (eVar 2) (eC (.int 0))) (eC c_SINGLE))) (sRet (e2 gEq (eVar 0) (e2 gIx (eVar 1) (eC (.int 0))))) (sNil)
def pc_b_is_kind_7 : Dv.Env → SR := sRet (e2 gIn (eVar 0) (eVar 1))
theorem pc_b_is_kind : b_is_kind = sq pc_b_is_kind_1 (sq pc_b_is_kind_2 (sq pc_b_is_kind_3 (sq pc_b_is_kind_4 (sq pc_b_is_kind_5 (sq pc_b_is_kind_6 (pc_b_is_kind_7)))))) := rfl

theorem sq_nx {f g : Dv.Env → SR} {ρ ρ' : Dv.Env} (h : f ρ = .nx ρ') : sq f g ρ = g ρ' := by
  show (f ρ).andThen g = _
  rw [h]; rfl
/-! is_kind: which answer is due -/
/-- none: no; some (some s): s alone; some none: any of them -/
def tagP (ws : List Str) : Option (Option Str) :=
  if (Ps ws).Pairwise (· ≤ ·) ∧ ((Ps ws).filter fun i => decide (i < 4)).length ≤ 1 ∧ adj (Ps ws) = false then
    match ws with
    | [] => some (some (Str.ofString ""))
    | w :: _ => if (pl w : Int) < 4 then some (some w) else some none
  else none
def ev (ws : List Str) (k : Str) : Option (Option Str) → Bool
  | none => false
  | some (some s) => k == s
  | some none => ws.any (· == k)
theorem Ps_len (ws : List Str) : (Ps ws).length = ws.length := List.length_map ..
theorem ik_core (k : Str) (ws : List Str) (P Q : List Int) (r : Bool) (n m : Int) (w0 : Str) (h1 : d_are_words [.tup (dStrs ws), c_KINDS] = .ok (.bl true))
    (h2 : lcL (gNm 5) tYes (eIdx c_KINDS (eVar 5)) [some (.str k), some (.tup (dStrs ws)), none, none, none, none, none] (dStrs ws) [] = .ok (.lst true (dInts P)))
    (h3 : lcL (gNm 6) (eT (e2 gLt (eVar 6) (eC c_SINGLE))) (asOwn (eVar 6)) [some (.str k), some (.tup (dStrs ws)), some (.lst false (dInts P)), none, none, none, none] (dInts P) [] = .ok (.lst true (dInts Q)))
    (h5 : (P.Pairwise (· ≤ ·) ∧ Q.length ≤ 1 ∧ adj P = false) ∨ (¬ (P.Pairwise (· ≤ ·) ∧ Q.length ≤ 1 ∧ adj P = false) ∧ r = false))
    (h4 : (adj P = true ∧ ∃ ρ, forL (gTp (gsCons (gNm 3) (gsCons (gNm 4) (gsNil)))) lp_is_kind_1 (zipD (dInts P) (dInts (P.drop 1))) [some (.str k), some (.tup (dStrs ws)), some (.lst false (dInts P)), none, none, none, none] = .rt (.bl false) ρ) ∨ (adj P = false ∧ ∃ z3' z4', forL (gTp (gsCons (gNm 3) (gsCons (gNm 4) (gsNil)))) lp_is_kind_1 (zipD (dInts P) (dInts (P.drop 1))) [some (.str k), some (.tup (dStrs ws)), some (.lst false (dInts P)), none, none, none, none] = .nx [some (.str k), some (.tup (dStrs ws)), some (.lst false (dInts P)), z3', z4', none, none]))
    (h6 : (P.Pairwise (· ≤ ·) ∧ Q.length ≤ 1 ∧ adj P = false) → (ws = [] ∧ r = (k == Str.ofString "")) ∨ (gEq (.tup (dStrs ws)) (.tup []) = some (.bl false) ∧ ixD (dInts P) 0 = some (.int n) ∧ ixD (dStrs ws) 0 = some (.str w0) ∧ gIn (.str k) (.tup (dStrs ws)) = some (.bl (ws.any (· == k))) ∧ r = if n < 4 then k == w0 else ws.any (· == k))) :
    d_is_kind [.str k, .tup (dStrs ws)] = .ok (.bl r) := by
  have se := sort_eq P
  have cd : Dv.cutD P (some 1) none = P.drop 1 := cut_from P 1
  have pw := dStrs_pure ws
  have kP : c_KINDS.pure = true := rfl
  have kC : c_KINDS.cold = true := rfl
  have kF : c_KINDS.frz = c_KINDS := rfl
  have e1 : pc_b_is_kind_1 [some (.str k), some (.tup (dStrs ws)), none, none, none, none, none] = .nx [some (.str k), some (.tup (dStrs ws)), none, none, none, none, none] := by
    simp [pc_b_is_kind_1, callF, pw, kP, kC, kF, h1]
  have e2 : pc_b_is_kind_2 [some (.str k), some (.tup (dStrs ws)), none, none, none, none, none] = .nx [some (.str k), some (.tup (dStrs ws)), some (.lst true (dInts P)), none, none, none, none] := by
    simp [pc_b_is_kind_2, pw, h2]
  show SR.out (b_is_kind _) = _
  rw [pc_b_is_kind]
  show SR.out (sq pc_b_is_kind_1 _ [some (.str k), some (.tup (dStrs ws)), none, none, none, none, none]) = _
  rw [sq_nx e1, sq_nx e2]
  by_cases a : P.Pairwise (· ≤ ·)
  · rw [decide_eq_true a] at se
    by_cases b : Q.length ≤ 1
    · have b2 : ¬ (1 < Q.length) := by omega
      have b3 : (Q.length : Int) ≤ 1 := by omega
      have e3 : pc_b_is_kind_3 [some (.str k), some (.tup (dStrs ws)), some (.lst true (dInts P)), none, none, none, none] = .nx [some (.str k), some (.tup (dStrs ws)), some (.lst false (dInts P)), none, none, none, none] := by
        simp [pc_b_is_kind_3, frzAt, se, h3, b2, b3]
      rw [sq_nx e3]
      rw [List.drop_one] at h4 cd
      rcases h4 with ⟨c, ρ, h4⟩ | ⟨c, z3, z4, h4⟩
      · have hr : r = false := (h5.resolve_left fun z => by rw [c] at z; exact absurd z.2.2 (by simp)).2
        subst hr
        have e4 : pc_b_is_kind_4 [some (.str k), some (.tup (dStrs ws)), some (.lst false (dInts P)), none, none, none, none] = .rt (.bl false) ρ := by
          simp [pc_b_is_kind_4, frzAt, cd, h4]
        show SR.out ((pc_b_is_kind_4 _).andThen _) = _
        rw [e4]; rfl
      · have e4 : pc_b_is_kind_4 [some (.str k), some (.tup (dStrs ws)), some (.lst false (dInts P)), none, none, none, none] = .nx [some (.str k), some (.tup (dStrs ws)), some (.lst false (dInts P)), z3, z4, none, none] := by
          simp [pc_b_is_kind_4, frzAt, cd, h4]
        rw [sq_nx e4]
        rcases h6 ⟨a, b, c⟩ with ⟨rfl, rfl⟩ | ⟨g1, g2, g3, g4, rfl⟩
        · have ge : gEq (.tup (dStrs [])) (.tup []) = some (.bl true) := rfl
          simp [pc_b_is_kind_5, pc_b_is_kind_6, pc_b_is_kind_7, ge]
        · by_cases hn : n < 4
          · simp [pc_b_is_kind_5, pc_b_is_kind_6, pc_b_is_kind_7, g1, g2, g3, g4, hn, c_SINGLE]
          · simp [pc_b_is_kind_5, pc_b_is_kind_6, pc_b_is_kind_7, g1, g2, g3, g4, hn, c_SINGLE]
    · have hr : r = false := (h5.resolve_left fun z => b z.2.1).2
      subst hr
      have b2 : 1 < (Q.length : Int) := by omega
      simp [pc_b_is_kind_3, frzAt, se, h3, b2]
  · rw [decide_eq_false a] at se
    have hr : r = false := (h5.resolve_left fun z => a z.1).2
    subst hr
    simp [pc_b_is_kind_3, frzAt, se]
theorem KS_ok : ∀ x ∈ KS, PyData.strOk x = true := by decide +kernel
theorem any_ok {s : Str} (h : KS.any (· == s) = true) : PyData.strOk s = true := by
  obtain ⟨x, hx, e⟩ := List.any_eq_true.mp h
  rw [← beq_iff_eq.mp e]
  exact KS_ok x hx
theorem eq_nilT (w : Str) (ws : List Str) (h : ∀ s ∈ w :: ws, PyData.strOk s = true) : gEq (.tup (dStrs (w :: ws))) (.tup []) = some (.bl false) := by
  show (if D.lay 60 (.tup (dStrs (w :: ws))) = true ∧ D.lay 60 (.tup []) = true then some (D.bl (D.eqv (.tup (dStrs (w :: ws))) (.tup []))) else none) = _
  rw [if_pos ⟨dStrs_lay 59 _ h, rfl⟩]
  rfl
theorem m_is_kind (k : Str) (ws : List Str) (h : ∀ s ∈ ws, KS.any (· == s) = true) (hl : ws.length ≤ 1000) : d_is_kind [.str k, .tup (dStrs ws)] = .ok (.bl (ev ws k (tagP ws))) := by
  have hw : words KS (.tup (dStrs ws)) = true := by
    show (dStrs ws).all (isW KS) = true
    refine List.all_eq_true.mpr fun d hd => ?_
    obtain ⟨s, hs, rfl⟩ := List.mem_map.mp hd
    exact h s hs
  have h1 := m_words (.tup (dStrs ws)) KS (dStrs_pure ws) fun xs e => by
    cases e
    exact ⟨fun x hx => by obtain ⟨s, _, rfl⟩ := List.mem_map.mp hx; rfl, by show (ws.map D.str).length ≤ _; rw [List.length_map]; exact hl⟩
  rw [hw] at h1
  have h2 := pl_lc (.str k) (.tup (dStrs ws)) none none none none ws h hl
  have h3 := lt_lc (.str k) (.tup (dStrs ws)) (some (.lst false (dInts (Ps ws)))) none none none (Ps ws) (by rw [Ps_len]; exact hl)
  have h4 := ad_loop (some (.str k)) (some (.tup (dStrs ws))) (some (.lst false (dInts (Ps ws)))) none none (Ps ws) none none
  have base : ∀ (n : Int) (w0 : Str), _ → _ → d_is_kind [.str k, .tup (dStrs ws)] = .ok (.bl (ev ws k (tagP ws))) := fun n w0 h5 h6 => ik_core k ws (Ps ws) _ (ev ws k (tagP ws)) n 0 w0 (by rw [KS_D]; exact h1) h2 h3 h5 h4 h6
  cases ws with
  | nil =>
    refine base 0 k (.inl ?_) fun _ => .inl ⟨rfl, rfl⟩
    exact ⟨List.Pairwise.nil, by decide, rfl⟩
  | cons w ws =>
    refine base (pl w : Int) w ?_ fun hc => .inr ⟨eq_nilT w ws fun s hs => any_ok (h s hs), rfl, rfl, in_tup _ _, ?_⟩
    · by_cases hc : (Ps (w :: ws)).Pairwise (· ≤ ·) ∧ ((Ps (w :: ws)).filter fun i => decide (i < 4)).length ≤ 1 ∧ adj (Ps (w :: ws)) = false
      · exact .inl hc
      · exact .inr ⟨hc, by unfold tagP; rw [if_neg hc]; rfl⟩
    · unfold tagP
      rw [if_pos hc]
      show ev _ k (if (pl w : Int) < 4 then some (some w) else some none) = _
      split <;> rfl

end
set_option maxRecDepth 100000
set_option maxHeartbeats 4000000
open PySem PySem.Spec PyProof.Rows L2 Dv
noncomputable section
def pc_b__law_kind_fits_1 : Dv.Env → SR := sIf (tOrF (tNotF (eT (eCall 2 d__law_words (aV (eVar 1) (aO (eCall 0 d__law_kinds aNil) (aNil)))))) (tNotF (eT (eIsi "str" (eVar 0))))) (sRet (eC (.bl false))) (sNil)
def pc_b__law_kind_fits_2 : Dv.Env → SR := sAsg 2 (eLc (iW (eVar 1)) (gNm 4) (eT (e2 gNotIn (eVar 4) (eLst (aO (eC (.str "folio")) (aO (eC (.str "crate")) (aNil)))))) (asOwn (eVar 4)) [4])
def pc_b__law_kind_fits_3 : Dv.Env → SR := sAsg 3 (eLc (iO (eCall 0 d__law_kinds aNil)) (gNm 4) (eT (e2 gIn (eVar 4) (eVar 1))) (asOwn (eVar 4)) [4])
def pc_b__law_kind_fits_4 : Dv.Env → SR := sIf (tOrF (eT (e2 gNe (eB gList (aV (eVar 1) (aNil))) (eVar 3))) (eT (e2 gGt (eB gLen (aV (eVar 2) (aNil))) (eC (.int 1))))) (sRet (eC (.bl false))) (sNil)
def pc_b__law_kind_fits_5 : Dv.Env → SR := sIf (eT (e2 gEq (eB gLen (aV (eVar 2) (aNil))) (eC (.int 1)))) (sRet (e2 gEq (eVar 0) (e2 gIx (eVar 2) (eC (.int 0))))) (sNil)
def pc_b__law_kind_fits_6 : Dv.Env → SR := sIf (eT (e2 gEq (eB gLen (aV (eVar 1) (aNil))) (eC (.int 0)))) (sRet (e2 gEq (eVar 0) (eC (.str "")))) (sNil)
def pc_b__law_kind_fits_7 : Dv.Env → SR := sRet (e2 gIn (eVar 0) (eVar 1))
theorem pc_b__law_kind_fits : b__law_kind_fits = sq pc_b__law_kind_fits_1 (sq pc_b__law_kind_fits_2 (sq pc_b__law_kind_fits_3 (sq pc_b__law_kind_fits_4 (sq pc_b__law_kind_fits_5 (sq pc_b__law_kind_fits_6 (pc_b__law_kind_fits_7)))))) := rfl

def FC : List Str := [Str.ofString "folio", Str.ofString "crate"]
def nfD (d : D) : Bool := match d with
  | .str s => !FC.any (· == s)
  | _ => false
def inD (ws : List Str) (d : D) : Bool := match d with
  | .str s => ws.any (· == s)
  | _ => false
def sgl (ws : List Str) : List Str := ws.filter fun s => !FC.any (· == s)
def dueK (ws : List Str) : List Str := KS.filter fun s => ws.any (· == s)
theorem fil_strs (f : Str → Bool) (g : D → Bool) (h : ∀ s, g (.str s) = f s) : ∀ xs : List Str, ((dStrs xs).filter g).map (fun d => d) = dStrs (xs.filter f)
  | [] => rfl
  | x :: xs => by
    show ((D.str x :: dStrs xs).filter g).map _ = _
    rw [List.filter_cons, List.filter_cons, h]
    by_cases q : f x = true
    · rw [if_pos q, if_pos q, List.map_cons, fil_strs f g h xs]; rfl
    · rw [if_neg q, if_neg q, fil_strs f g h xs]
theorem dStrs_len (ws : List Str) : (dStrs ws).length = ws.length := List.length_map ..
theorem sg_lc (k κ : D) (x2 x3 : Option D) (ws : List Str) (hl : ws.length ≤ 1000) : lcL (gNm 4) (eT (e2 gNotIn (eVar 4) (eLst (aO (eC (.str (Str.ofString "folio"))) (aO (eC (.str (Str.ofString "crate"))) (aNil)))))) (asOwn (eVar 4)) [some k, some κ, x2, x3, none] (dStrs ws) [] = .ok (.lst true (dStrs (sgl ws))) := by
  rw [lcL_of nfD (fun d => d) (dStrs ws) [] (fun d hd => by
    obtain ⟨s, _, rfl⟩ := List.mem_map.mp hd
    refine ⟨[some k, some κ, x2, x3, some (.str s)], rfl, ?_, fun _ => ?_⟩
    · have := (in_lst true FC s).2
      have e : dStrs FC = [D.str (Str.ofString "folio"), .str (Str.ofString "crate")] := rfl
      rw [e] at this
      cases q : FC.any (· == s) with
      | true => rw [q] at this; simp [nfD, this, q]
      | false => rw [q] at this; simp [nfD, this, q]
    · simp) (by rw [dStrs_len]; simp; omega), List.nil_append, fil_strs _ nfD (fun _ => rfl)]
  rfl
theorem du_lc (k : D) (x2 x3 : Option D) (ws : List Str) : lcL (gNm 4) (eT (e2 gIn (eVar 4) (eVar 1))) (asOwn (eVar 4)) [some k, some (.tup (dStrs ws)), x2, x3, none] (dStrs KS) [] = .ok (.lst true (dStrs (dueK ws))) := by
  rw [lcL_of (inD ws) (fun d => d) (dStrs KS) [] (fun d hd => by
    obtain ⟨s, _, rfl⟩ := List.mem_map.mp hd
    refine ⟨[some k, some (.tup (dStrs ws)), x2, x3, some (.str s)], rfl, ?_, fun _ => ?_⟩
    · have := in_tup ws s
      cases q : ws.any (· == s) with
      | true => rw [q] at this; simp [inD, this, q]
      | false => rw [q] at this; simp [inD, this, q]
    · simp) (by rw [dStrs_len]; show 0 + 6 ≤ _; omega), List.nil_append, fil_strs _ (inD ws) (fun _ => rfl)]
  rfl
def tagL (ws : List Str) : Option (Option Str) :=
  if (ws == dueK ws) = true ∧ (sgl ws).length ≤ 1 then
    match sgl ws with
    | s :: _ => some (some s)
    | [] => match ws with
      | [] => some (some (Str.ofString ""))
      | _ => some none
  else none
theorem ne_strs (o p : Bool) (a b : List Str) (ha : ∀ x ∈ a, PyData.strOk x = true) (hb : ∀ x ∈ b, PyData.strOk x = true) : gNe (.lst o (dStrs a)) (.lst p (dStrs b)) = some (.bl (!(a == b))) := by
  show (if D.lay 60 (.lst o (dStrs a)) = true ∧ D.lay 60 (.lst p (dStrs b)) = true then some (D.bl (!D.eqv (.lst o (dStrs a)) (.lst p (dStrs b)))) else none) = _
  rw [if_pos ⟨dStrs_lay 59 _ ha, dStrs_lay 59 _ hb⟩]
  show some (D.bl (!PyData.eqvAll (D.toPL (dStrs a)) (D.toPL (dStrs b)))) = _
  rw [dStrs_eqvAll]
theorem kf_core (k : Str) (ws due sg : List Str) (KD : List D) (r : Bool) (s0 : Str) (pK : D.pureL KD = true) (hk : d__law_kinds [] = .ok (.lst true KD)) (h1 : d__law_words [.tup (dStrs ws), .lst false KD] = .ok (.bl true)) (hl : ws.length ≤ 1000)
    (h2 : lcL (gNm 4) (eT (e2 gNotIn (eVar 4) (eLst (aO (eC (.str (Str.ofString "folio"))) (aO (eC (.str (Str.ofString "crate"))) (aNil)))))) (asOwn (eVar 4)) [some (.str k), some (.tup (dStrs ws)), none, none, none] (dStrs ws) [] = .ok (.lst true (dStrs sg)))
    (h3 : lcL (gNm 4) (eT (e2 gIn (eVar 4) (eVar 1))) (asOwn (eVar 4)) [some (.str k), some (.tup (dStrs ws)), some (.lst true (dStrs sg)), none, none] KD [] = .ok (.lst true (dStrs due)))
    (hne : gNe (.lst true (dStrs ws)) (.lst true (dStrs due)) = some (.bl (!(ws == due)))) (h4 : gIn (.str k) (.tup (dStrs ws)) = some (.bl (ws.any (· == k))))
    (h5 : ¬ ((ws == due) = true ∧ sg.length ≤ 1) → r = false) (h6 : (ws == due) = true ∧ sg.length ≤ 1 → (sg.length = 1 ∧ ixD (dStrs sg) 0 = some (.str s0) ∧ r = (k == s0)) ∨ (sg.length = 0 ∧ ((ws.length = 0 ∧ r = (k == Str.ofString "")) ∨ (0 < ws.length ∧ r = ws.any (· == k))))) :
    d__law_kind_fits [.str k, .tup (dStrs ws)] = .ok (.bl r) := by
  have cK := D.pureL_cold KD pK
  have fK := D.pureL_frzL KD pK
  have pw := dStrs_pure ws
  have pd := dStrs_pure sg
  have lw := dStrs_len ws
  have ls := dStrs_len sg
  have hl' : ws.length ≤ 16777216 := by omega
  have e1 : pc_b__law_kind_fits_1 [some (.str k), some (.tup (dStrs ws)), none, none, none] = .nx [some (.str k), some (.tup (dStrs ws)), none, none, none] := by
    simp [pc_b__law_kind_fits_1, callF, pw, hk, cK, fK, pK, h1]
  have e2 : pc_b__law_kind_fits_2 [some (.str k), some (.tup (dStrs ws)), none, none, none] = .nx [some (.str k), some (.tup (dStrs ws)), some (.lst true (dStrs sg)), none, none] := by
    simp [pc_b__law_kind_fits_2, pw, h2]
  have e3 : pc_b__law_kind_fits_3 [some (.str k), some (.tup (dStrs ws)), some (.lst true (dStrs sg)), none, none] = .nx [some (.str k), some (.tup (dStrs ws)), some (.lst true (dStrs sg)), some (.lst true (dStrs due)), none] := by
    simp [pc_b__law_kind_fits_3, callF, hk, cK, fK, pK, h3]
  show SR.out (b__law_kind_fits _) = _
  rw [pc_b__law_kind_fits]
  show SR.out (sq pc_b__law_kind_fits_1 _ [some (.str k), some (.tup (dStrs ws)), none, none, none]) = _
  rw [sq_nx e1, sq_nx e2, sq_nx e3]
  by_cases a : (ws == due) = true
  · rw [a] at hne
    by_cases b : sg.length ≤ 1
    · have b3 : ¬ 1 < sg.length := by omega
      have b4 : ¬ (1 < (sg.length : Int)) := by omega
      have e4 : pc_b__law_kind_fits_4 [some (.str k), some (.tup (dStrs ws)), some (.lst true (dStrs sg)), some (.lst true (dStrs due)), none] = .nx [some (.str k), some (.tup (dStrs ws)), some (.lst true (dStrs sg)), some (.lst true (dStrs due)), none] := by
        simp [pc_b__law_kind_fits_4, pw, lw, hl', hne, ls, b3, b4]
      rw [sq_nx e4]
      rcases h6 ⟨a, b⟩ with ⟨g1, g2, rfl⟩ | ⟨g1, ⟨g2, rfl⟩ | ⟨g2, rfl⟩⟩
      · have g1' : ((sg.length : Nat) : Int) = 1 := by omega
        simp [pc_b__law_kind_fits_5, ls, g1, g1', g2]
      · have g1' : ¬ ((sg.length : Nat) : Int) = 1 := by omega
        have g2' : ((ws.length : Nat) : Int) = 0 := by omega
        simp [pc_b__law_kind_fits_5, pc_b__law_kind_fits_6, ls, lw, g1, g1', g2, g2']
      · have g1' : ¬ ((sg.length : Nat) : Int) = 1 := by omega
        have g2' : ¬ ((ws.length : Nat) : Int) = 0 := by omega
        have g3' : ¬ ws.length = 0 := by omega
        have g4' : ¬ ws = [] := fun z => by rw [z] at g3'; exact g3' rfl
        simp [pc_b__law_kind_fits_5, pc_b__law_kind_fits_6, pc_b__law_kind_fits_7, ls, lw, g1, g1', g2', g4', h4]
    · have hr := h5 fun z => b z.2
      subst hr
      have b4 : 1 < (sg.length : Int) := by omega
      have b5 : 1 < sg.length := by omega
      simp [pc_b__law_kind_fits_4, pw, lw, hl', hne, ls, b4, b5]
  · have hr := h5 fun z => a z.1
    subst hr
    rw [eq_false_of_ne_true a] at hne
    simp [pc_b__law_kind_fits_4, pw, lw, hl', hne]

end
set_option maxRecDepth 100000
set_option maxHeartbeats 4000000
open PySem PySem.Spec PyProof.Rows L2 Dv
noncomputable section
def pc_b_is_sound_1 : Dv.Env → SR := sIf (tOrF (tNotF (eT (eIsi "tuple" (eVar 0)))) (eT (e2 gNe (eB gLen (aV (eVar 0) (aNil))) (eC (.int 7))))) (sRet (eC (.bl false))) (sNil)
def pc_b_is_sound_2 : Dv.Env → SR := sUn (gTp (gsCons (gNm 1) (gsCons (gNm 2) (gsCons (gNm 3) (gsCons (gNm 4) (gsCons (gNm 5) (gsCons (gNm 6) (gsCons (gNm 7) (gsNil))))))))) (eVar 0)
def pc_b_is_sound_3 : Dv.Env → SR := sFz 1 (sIf (tOrF (tNotF (eT (eIsi "tuple" (eVar 1)))) (tNotF (eT (eB gAll (aV (eLc (iW (eVar 1)) (gNm 8) (tYes) (eCall 3 d_is_between (aV (eVar 8) (aO (eC (.int 0)) (aO (eC (.int 255)) (aNil))))) [8]) (aNil)))))) (sRet (eC (.bl false))) (sNil))
def pc_b_is_sound_4 : Dv.Env → SR := sIf (tOrF (tNotF (eT (eCall 3 d_is_between (aV (eVar 2) (aO (eC (.int 0)) (aO (eC c_MOST_SIZE) (aNil))))))) (tNotF (eT (eCall 3 d_is_between (aV (eVar 5) (aO (eC (.int 0)) (aO (eC c_MOST_PAGES) (aNil)))))))) (sRet (eC (.bl false))) (sNil)
def pc_b_is_sound_5 : Dv.Env → SR := sIf (tNotF (eT (eCall 3 d_is_between (aV (eVar 7) (aO (eC (.int 0)) (aO (eC c_MOST_DEPTH) (aNil))))))) (sRet (eC (.bl false))) (sNil)
def pc_b_is_sound_6 : Dv.Env → SR := sRet (asOwn (eAnd (eCall 2 d_is_kind (aV (eVar 3) (aV (eVar 4) (aNil)))) (eCall 2 d_are_words (aV (eVar 6) (aO (eC c_ACTS) (aNil))))))
theorem pc_b_is_sound : b_is_sound = sq pc_b_is_sound_1 (sq pc_b_is_sound_2 (sq pc_b_is_sound_3 (sq pc_b_is_sound_4 (sq pc_b_is_sound_5 (pc_b_is_sound_6))))) := rfl

def pc_b__law_due_1 : Dv.Env → SR := sIf (tOrF (tNotF (eT (eIsi "tuple" (eVar 0)))) (eT (e2 gNe (eB gLen (aV (eVar 0) (aNil))) (eC (.int 7))))) (sRet (eC (.bl false))) (sNil)
def pc_b__law_due_2 : Dv.Env → SR := sIf (tOrF (tNotF (eT (eIsi "tuple" (e2 gIx (eVar 0) (eC (.int 0)))))) (eT (e2 gGt (eB gLen (aV (eLc (iW (e2 gIx (eVar 0) (eC (.int 0)))) (gNm 1) (tNotF (eT (eCall 2 d__law_number (aV (eVar 1) (aO (eC (.int 255)) (aNil)))))) (asOwn (eVar 1)) [1]) (aNil))) (eC (.int 0))))) (sRet (eC (.bl false))) (sNil)
def pc_b__law_due_3 : Dv.Env → SR := sIf (tOrF (tNotF (eT (eCall 2 d__law_number (aV (e2 gIx (eVar 0) (eC (.int 1))) (aO (eC (.int 2147483647)) (aNil)))))) (tOrF (tNotF (eT (eCall 2 d__law_number (aV (e2 gIx (eVar 0) (eC (.int 4))) (aO (eC (.int 8)) (aNil)))))) (tNotF (eT (eCall 2 d__law_number (aV (e2 gIx (eVar 0) (eC (.int 6))) (aO (eC (.int 4)) (aNil)))))))) (sRet (eC (.bl false))) (sNil)
def pc_b__law_due_4 : Dv.Env → SR := sRet (asOwn (eAnd (eCall 2 d__law_kind_fits (aV (e2 gIx (eVar 0) (eC (.int 2))) (aV (e2 gIx (eVar 0) (eC (.int 3))) (aNil)))) (eCall 2 d__law_words (aV (e2 gIx (eVar 0) (eC (.int 5))) (aO (eCall 0 d__law_acts aNil) (aNil))))))
theorem pc_b__law_due : b__law_due = sq pc_b__law_due_1 (sq pc_b__law_due_2 (sq pc_b__law_due_3 (pc_b__law_due_4))) := rfl

theorem sgl_len (ws : List Str) : (sgl ws).length ≤ ws.length := List.length_filter_le _ _
theorem m_fits (k : Str) (ws : List Str) (h : ∀ s ∈ ws, KS.any (· == s) = true) (hl : ws.length ≤ 1000) : d__law_kind_fits [.str k, .tup (dStrs ws)] = .ok (.bl (ev ws k (tagL ws))) := by
  have hw : words KS (.tup (dStrs ws)) = true := by
    show (dStrs ws).all (isW KS) = true
    refine List.all_eq_true.mpr fun d hd => ?_
    obtain ⟨s, hs, rfl⟩ := List.mem_map.mp hd
    exact h s hs
  have h1 := m_lwords (.tup (dStrs ws)) KS (dStrs_pure ws) fun xs e => by
    cases e
    exact ⟨fun x hx => by obtain ⟨s, _, rfl⟩ := List.mem_map.mp hx; rfl, by show (ws.map D.str).length ≤ _; rw [List.length_map]; exact hl⟩
  rw [hw] at h1
  have dk : ∀ x ∈ dueK ws, PyData.strOk x = true := fun x hx => KS_ok x (List.mem_filter.mp hx).1
  have base : ∀ (s0 : Str), _ → _ → d__law_kind_fits [.str k, .tup (dStrs ws)] = .ok (.bl (ev ws k (tagL ws))) := fun s0 h5 h6 => kf_core k ws (dueK ws) (sgl ws) (dStrs KS) (ev ws k (tagL ws)) s0 (dStrs_pure KS) m_kinds h1 hl (sg_lc _ _ _ _ ws hl) (du_lc _ _ _ ws) (ne_strs _ _ _ _ (fun s hs => any_ok (h s hs)) dk) (in_tup ws k) h5 h6
  have no : ¬ ((ws == dueK ws) = true ∧ (sgl ws).length ≤ 1) → ev ws k (tagL ws) = false := fun hc => by unfold tagL; rw [if_neg hc]; rfl
  cases hs : sgl ws with
  | nil =>
    refine base k no fun hc => .inr ⟨by rw [hs]; rfl, ?_⟩
    cases ws with
    | nil => exact .inl ⟨rfl, rfl⟩
    | cons w ws =>
      refine .inr ⟨by simp, ?_⟩
      unfold tagL
      rw [if_pos hc, hs]; rfl
  | cons s0 r =>
    refine base s0 no fun hc => .inl ⟨?_, by rw [hs]; rfl, ?_⟩
    · have := hc.2
      rw [hs] at this ⊢
      simp at this ⊢
      exact this
    · unfold tagL
      rw [if_pos hc, hs]; rfl
/-- what may stand in the place of kinds -/
def okK (κ : D) : Prop := sim κ = true ∧ (∀ xs, κ = .tup xs → (∀ x ∈ xs, sim x = true) ∧ xs.length ≤ 1000) ∧ (words KS κ = false ∨ ∃ ws : List Str, κ = .tup (dStrs ws) ∧ (∀ s ∈ ws, KS.any (· == s) = true) ∧ ws.length ≤ 1000 ∧ tagP ws = tagL ws)
theorem k_no1 (k κ : D) (pk : k.pure = true) (pκ : κ.pure = true) (h : d_are_words [κ, c_KINDS] = .ok (.bl false)) : d_is_kind [k, κ] = .ok (.bl false) := by
  have kP : c_KINDS.pure = true := rfl
  have kC : c_KINDS.cold = true := rfl
  have kF : c_KINDS.frz = c_KINDS := rfl
  simp [d_is_kind, b_is_kind, fnD, callF, pκ, kP, kC, kF, h]
theorem k_no2 (k κ : D) (KD : List D) (pK : D.pureL KD = true) (pk : k.pure = true) (pκ : κ.pure = true) (hk : d__law_kinds [] = .ok (.lst true KD)) (h : d__law_words [κ, .lst false KD] = .ok (.bl false)) : d__law_kind_fits [k, κ] = .ok (.bl false) := by
  have cK := D.pureL_cold KD pK
  have fK := D.pureL_frzL KD pK
  have cκ := D.pure_cold κ pκ
  have fκ := D.pure_frz κ pκ
  simp [d__law_kind_fits, b__law_kind_fits, fnD, callF, pκ, hk, cK, fK, cκ, fκ, h]
theorem k_ns1 (k κ : D) (pκ : κ.pure = true) (hk : isiD "str" k = .ok (.bl false)) (h : d_are_words [κ, c_KINDS] = .ok (.bl true)) : d_is_kind [k, κ] = .ok (.bl false) := by
  have kP : c_KINDS.pure = true := rfl
  have kC : c_KINDS.cold = true := rfl
  have kF : c_KINDS.frz = c_KINDS := rfl
  simp [d_is_kind, b_is_kind, fnD, callF, pκ, kP, kC, kF, h, hk]
theorem k_ns2 (k κ : D) (KD : List D) (pK : D.pureL KD = true) (pκ : κ.pure = true) (hn : isiD "str" k = .ok (.bl false)) (hk : d__law_kinds [] = .ok (.lst true KD)) (h : d__law_words [κ, .lst false KD] = .ok (.bl true)) : d__law_kind_fits [k, κ] = .ok (.bl false) := by
  have cK := D.pureL_cold KD pK
  have fK := D.pureL_frzL KD pK
  have cκ := D.pure_cold κ pκ
  have fκ := D.pure_frz κ pκ
  simp [d__law_kind_fits, b__law_kind_fits, fnD, callF, pκ, hk, cK, fK, cκ, fκ, h, hn]
theorem str_or (k : D) (h : sim k = true) : (∃ s, k = .str s) ∨ isiD "str" k = .ok (.bl false) := by
  cases k with
  | str s => exact .inl ⟨s, rfl⟩
  | lst o xs =>
    cases o with
    | true => cases h
    | false => exact .inr (isi_str_lst ..)
  | scr _ => cases h
  | dic _ _ _ => cases h
  | dit _ _ _ => cases h
  | ins _ _ _ => cases h
  | non => exact .inr isi_str_non
  | bl b => exact .inr (isi_str_bl ..)
  | int b => exact .inr (isi_str_int ..)
  | tup b => exact .inr (isi_str_tup ..)
theorem kind_both (k κ : D) (hk : sim k = true) (h : okK κ) : ∃ b, d_is_kind [k, κ] = .ok (.bl b) ∧ d__law_kind_fits [k, κ] = .ok (.bl b) ∧ ∀ s ws, k = .str s → κ = .tup (dStrs ws) → (∀ s ∈ ws, KS.any (· == s) = true) → ws.length ≤ 1000 → b = ev ws s (tagP ws) := by
  obtain ⟨h1, h2, h3⟩ := h
  have w1 := m_words κ KS h1 h2
  have w2 := m_lwords κ KS h1 h2
  rw [← KS_D] at w1
  have hall : ∀ ws : List Str, (∀ s ∈ ws, KS.any (· == s) = true) → words KS (.tup (dStrs ws)) = true := fun ws h => by
    show (dStrs ws).all (isW KS) = true
    refine List.all_eq_true.mpr fun d hd => ?_
    obtain ⟨s, hs, rfl⟩ := List.mem_map.mp hd
    exact h s hs
  rcases h3 with h3 | ⟨ws, rfl, g1, g2, g3⟩
  · rw [h3] at w1 w2
    exact ⟨false, k_no1 k κ (sim_pure k hk) (sim_pure κ h1) w1, k_no2 k κ _ (dStrs_pure KS) (sim_pure k hk) (sim_pure κ h1) m_kinds w2, fun s ws _ e hw _ => by rw [e, hall ws hw] at h3; cases h3⟩
  · rw [hall ws g1] at w1 w2
    rcases str_or k hk with ⟨s, rfl⟩ | hn
    · refine ⟨_, m_is_kind s ws g1 g2, by rw [g3]; exact m_fits s ws g1 g2, fun s' ws' e1 e2 _ _ => ?_⟩
      cases e1
      have e3 : dStrs ws = dStrs ws' := by injection e2
      have e4 : ws = ws' := by
        have := congrArg txs e3
        rw [txs_strs, txs_strs] at this
        exact Option.some.inj this
      rw [e4]
    · exact ⟨false, k_ns1 k _ (dStrs_pure ws) hn w1, k_ns2 k _ _ (dStrs_pure KS) (dStrs_pure ws) hn m_kinds w2, fun s' ws' e1 _ _ _ => by rw [e1] at hn; rw [isi_str_str] at hn; cases hn⟩
/-! the seven parts -/
def okN (n : D) : Prop := sim n = true ∧ ∀ xs, n = .tup xs → (∀ x ∈ xs, sim x = true) ∧ xs.length ≤ 1000
theorem btw_item (d : D) (x0 x1 x2 x3 x4 x5 x6 x7 : Option D) (h : sim d = true) : eCall 3 d_is_between (aV (eVar 8) (aO (eC (.int 0)) (aO (eC (.int 255)) (aNil)))) [x0, x1, x2, x3, x4, x5, x6, x7, some d] = .ok (.bl (isB 255 d)) := by
  have e := m_btw d 255 h
  have p := sim_pure d h
  simp [callF, p, e]
theorem nm_core (xs : List D) (v s k κ p a dp : D) (px : D.pureL xs = true) (h : lcL (gNm 8) tYes (eCall 3 d_is_between (aV (eVar 8) (aO (eC (.int 0)) (aO (eC (.int 255)) (aNil))))) [some v, some (.tup xs), some s, some k, some κ, some p, some a, some dp, none] xs [] = .ok (.lst true (xs.map fun d => D.bl (isB 255 d)))) :
    pc_b_is_sound_3 [some v, some (.tup xs), some s, some k, some κ, some p, some a, some dp, none] = if nameOK (.tup xs) = true then .nx [some v, some (.tup xs), some s, some k, some κ, some p, some a, some dp, none] else .rt (.bl false) [some v, some (.tup xs), some s, some k, some κ, some p, some a, some dp, none] := by
  have e := lBls_map (isB 255) xs
  have e2 := all_id (isB 255) xs
  have c := D.pureL_cold xs px
  have f := D.pureL_frzL xs px
  have nm : nameOK (.tup xs) = xs.all (isB 255) := rfl
  rw [nm]
  cases q : xs.all (isB 255) with
  | true => rw [q] at e2; simp [pc_b_is_sound_3, frzAt, px, c, f, h, e, e2]
  | false => rw [q] at e2; simp [pc_b_is_sound_3, frzAt, px, c, f, h, e, e2]
theorem nm_step (n v s k κ p a dp : D) (h : okN n) : pc_b_is_sound_3 [some v, some n, some s, some k, some κ, some p, some a, some dp, none] = if nameOK n = true then .nx [some v, some n, some s, some k, some κ, some p, some a, some dp, none] else .rt (.bl false) [some v, some n, some s, some k, some κ, some p, some a, some dp, none] := by
  obtain ⟨h1, h2⟩ := h
  cases n with
  | tup xs =>
    obtain ⟨hs, hl⟩ := h2 xs rfl
    refine nm_core xs v s k κ p a dp h1 ?_
    rw [lcL_map (fun d => .bl (isB 255 d)) xs (fun d hd => ⟨[some v, some (.tup xs), some s, some k, some κ, some p, some a, some dp, some d], rfl, rfl, btw_item d _ _ _ _ _ _ _ _ (hs d hd)⟩) (by omega)]
  | lst o xs =>
    cases o with
    | true => cases h1
    | false =>
      have px : D.pureL xs = true := by simpa [sim] using h1
      have c := D.pureL_cold xs px
      have f := D.pureL_frzL xs px
      simp [pc_b_is_sound_3, frzAt, nameOK, c, f]
  | scr _ => cases h1
  | dic _ _ _ => cases h1
  | dit _ _ _ => cases h1
  | ins _ _ _ => cases h1
  | _ => simp [pc_b_is_sound_3, frzAt, nameOK]
theorem snd_core (n s k κ p a dp : D) (b1 b2 b3 b4 b5 bn : Bool) (hp : D.pureL [n, s, k, κ, p, a, dp] = true) (ps : s.pure = true) (pp : p.pure = true) (pd : dp.pure = true) (pk : k.pure = true) (pκ : κ.pure = true) (pa : a.pure = true)
    (hn : pc_b_is_sound_3 [some (.tup [n, s, k, κ, p, a, dp]), some n, some s, some k, some κ, some p, some a, some dp, none] = if bn = true then .nx [some (.tup [n, s, k, κ, p, a, dp]), some n, some s, some k, some κ, some p, some a, some dp, none] else .rt (.bl false) [some (.tup [n, s, k, κ, p, a, dp]), some n, some s, some k, some κ, some p, some a, some dp, none])
    (h1 : d_is_between [s, .int 0, .int 2147483647] = .ok (.bl b1)) (h2 : d_is_between [p, .int 0, .int 8] = .ok (.bl b2)) (h3 : d_is_between [dp, .int 0, .int 4] = .ok (.bl b3)) (h4 : d_is_kind [k, κ] = .ok (.bl b4)) (h5 : d_are_words [a, c_ACTS] = .ok (.bl b5)) :
    d_is_sound [.tup [n, s, k, κ, p, a, dp]] = .ok (.bl (bn && (b1 && b2 && b3 && (b4 && b5)))) := by
  have kP : c_ACTS.pure = true := rfl
  have kC : c_ACTS.cold = true := rfl
  have kF : c_ACTS.frz = c_ACTS := rfl
  have e1 : pc_b_is_sound_1 [some (.tup [n, s, k, κ, p, a, dp]), none, none, none, none, none, none, none, none] = .nx [some (.tup [n, s, k, κ, p, a, dp]), none, none, none, none, none, none, none, none] := by
    simp [pc_b_is_sound_1]
  have e2 : pc_b_is_sound_2 [some (.tup [n, s, k, κ, p, a, dp]), none, none, none, none, none, none, none, none] = .nx [some (.tup [n, s, k, κ, p, a, dp]), some n, some s, some k, some κ, some p, some a, some dp, none] := by
    have hp' : (D.tup [n, s, k, κ, p, a, dp]).pure = true := hp
    simp [pc_b_is_sound_2, hp']
  show SR.out (b_is_sound _) = _
  rw [pc_b_is_sound]
  show SR.out (sq pc_b_is_sound_1 _ [some (.tup [n, s, k, κ, p, a, dp]), none, none, none, none, none, none, none, none]) = _
  rw [sq_nx e1, sq_nx e2]
  cases bn with
  | false =>
    rw [if_neg Bool.false_ne_true] at hn
    show SR.out ((pc_b_is_sound_3 _).andThen _) = _
    rw [hn]; rfl
  | true =>
    rw [if_pos rfl] at hn
    rw [sq_nx hn]
    generalize D.tup [n, s, k, κ, p, a, dp] = v
    cases b1 <;> cases b2 <;> cases b3 <;> cases b4 <;> simp [pc_b_is_sound_4, pc_b_is_sound_5, pc_b_is_sound_6, callF, c_MOST_SIZE, c_MOST_PAGES, c_MOST_DEPTH, ps, pp, pd, pk, pκ, pa, kP, kC, kF, h1, h2, h3, h4, h5]

end
set_option maxRecDepth 100000
set_option maxHeartbeats 4000000
open PySem PySem.Spec PyProof.Rows L2 Dv
noncomputable section
def nbD (d : D) : Bool := !isB 255 d
theorem num_item (d : D) (x0 : Option D) (h : sim d = true) : tNotF (eT (eCall 2 d__law_number (aV (eVar 1) (aO (eC (.int 255)) (aNil))))) [x0, some d] = .ok (nbD d) := by
  have e := m_num d 255 h
  have p := sim_pure d h
  cases q : isB 255 d with
  | true => rw [q] at e; simp [callF, p, e, nbD, q]
  | false => rw [q] at e; simp [callF, p, e, nbD, q]
theorem own1 (d : D) (x0 : Option D) (h : d.pure = true) : asOwn (eVar 1) [x0, some d] = .ok d := by
  simp [h]
theorem ln_core (xs : List D) (s k κ p a dp : D) (R : List D) (px : D.pureL xs = true) (pR : D.pureL R = true) (m : Bool) (hm : R.length = 0 ↔ m = true) (h : lcL (gNm 1) (tNotF (eT (eCall 2 d__law_number (aV (eVar 1) (aO (eC (.int 255)) (aNil)))))) (asOwn (eVar 1)) [some (.tup [.tup xs, s, k, κ, p, a, dp]), none] xs [] = .ok (.lst true R)) :
    pc_b__law_due_2 [some (.tup [.tup xs, s, k, κ, p, a, dp]), none] = if m = true then .nx [some (.tup [.tup xs, s, k, κ, p, a, dp]), none] else .rt (.bl false) [some (.tup [.tup xs, s, k, κ, p, a, dp]), none] := by
  have ix : ixD [D.tup xs, s, k, κ, p, a, dp] 0 = some (.tup xs) := rfl
  cases m with
  | true =>
    have h0 : R = [] := List.length_eq_zero_iff.mp (hm.mpr rfl)
    subst h0
    simp [pc_b__law_due_2, ix, px, h]
  | false =>
    have h0 : 0 < R.length := by
      rcases Nat.eq_zero_or_pos R.length with z | z
      · exact absurd (hm.mp z) Bool.false_ne_true
      · exact z
    have h1 : 0 < (R.length : Int) := by omega
    simp [pc_b__law_due_2, ix, px, h, h0, h1]
theorem ln_step (n s k κ p a dp : D) (h : okN n) : pc_b__law_due_2 [some (.tup [n, s, k, κ, p, a, dp]), none] = if nameOK n = true then .nx [some (.tup [n, s, k, κ, p, a, dp]), none] else .rt (.bl false) [some (.tup [n, s, k, κ, p, a, dp]), none] := by
  obtain ⟨h1, h2⟩ := h
  have ix : ixD [n, s, k, κ, p, a, dp] 0 = some n := rfl
  cases n with
  | tup xs =>
    obtain ⟨hs, hl⟩ := h2 xs rfl
    refine ln_core xs s k κ p a dp (xs.filter nbD) h1 ?_ _ ?_ ?_
    · exact sims_pure _ fun x hx => hs x (List.mem_filter.mp hx).1
    · rw [List.length_eq_zero_iff, List.filter_eq_nil_iff]
      show _ ↔ xs.all (isB 255) = true
      rw [List.all_eq_true]
      exact forall_congr' fun x => forall_congr' fun _ => by unfold nbD; cases isB 255 x <;> simp
    · rw [lcL_of nbD (fun d => d) xs [] (fun d hd => ⟨[some (.tup [.tup xs, s, k, κ, p, a, dp]), some d], rfl, num_item d _ (hs d hd), fun _ => own1 d _ (sim_pure d (hs d hd))⟩) (by simp; omega), List.nil_append]
      congr 2
      exact List.map_id _
  | lst o xs =>
    cases o with
    | true => cases h1
    | false => simp [pc_b__law_due_2, ix, nameOK]
  | scr _ => cases h1
  | dic _ _ _ => cases h1
  | dit _ _ _ => cases h1
  | ins _ _ _ => cases h1
  | _ => simp [pc_b__law_due_2, ix, nameOK]
theorem due_core (n s k κ p a dp : D) (b1 b2 b3 b4 b5 bn : Bool) (KD : List D) (pK : D.pureL KD = true) (hk : d__law_acts [] = .ok (.lst true KD)) (ps : s.pure = true) (pp : p.pure = true) (pd : dp.pure = true) (pk : k.pure = true) (pκ : κ.pure = true) (pa : a.pure = true)
    (hn : pc_b__law_due_2 [some (.tup [n, s, k, κ, p, a, dp]), none] = if bn = true then .nx [some (.tup [n, s, k, κ, p, a, dp]), none] else .rt (.bl false) [some (.tup [n, s, k, κ, p, a, dp]), none])
    (h1 : d__law_number [s, .int 2147483647] = .ok (.bl b1)) (h2 : d__law_number [p, .int 8] = .ok (.bl b2)) (h3 : d__law_number [dp, .int 4] = .ok (.bl b3)) (h4 : d__law_kind_fits [k, κ] = .ok (.bl b4)) (h5 : d__law_words [a, .lst false KD] = .ok (.bl b5)) :
    d__law_due [.tup [n, s, k, κ, p, a, dp]] = .ok (.bl (bn && (b1 && b2 && b3 && (b4 && b5)))) := by
  have cK := D.pureL_cold KD pK
  have fK := D.pureL_frzL KD pK
  have ca := D.pure_cold a pa
  have fa := D.pure_frz a pa
  have e1 : pc_b__law_due_1 [some (.tup [n, s, k, κ, p, a, dp]), none] = .nx [some (.tup [n, s, k, κ, p, a, dp]), none] := by
    simp [pc_b__law_due_1]
  have i1 : ixD [n, s, k, κ, p, a, dp] 1 = some s := rfl
  have i2 : ixD [n, s, k, κ, p, a, dp] 2 = some k := rfl
  have i3 : ixD [n, s, k, κ, p, a, dp] 3 = some κ := rfl
  have i4 : ixD [n, s, k, κ, p, a, dp] 4 = some p := rfl
  have i5 : ixD [n, s, k, κ, p, a, dp] 5 = some a := rfl
  have i6 : ixD [n, s, k, κ, p, a, dp] 6 = some dp := rfl
  show SR.out (b__law_due _) = _
  rw [pc_b__law_due]
  show SR.out (sq pc_b__law_due_1 _ [some (.tup [n, s, k, κ, p, a, dp]), none]) = _
  rw [sq_nx e1]
  cases bn with
  | false =>
    rw [if_neg Bool.false_ne_true] at hn
    show SR.out ((pc_b__law_due_2 _).andThen _) = _
    rw [hn]; rfl
  | true =>
    rw [if_pos rfl] at hn
    rw [sq_nx hn]
    generalize [n, s, k, κ, p, a, dp] = v at i1 i2 i3 i4 i5 i6 ⊢
    cases b1 <;> cases b2 <;> cases b3 <;> cases b4 <;> simp [pc_b__law_due_3, pc_b__law_due_4, callF, i1, i2, i3, i4, i5, i6, ps, pp, pd, pk, pκ, pa, hk, cK, fK, ca, fa, pK, h1, h2, h3, h4, h5]
/-- a value of seven parts, each of which may be asked -/
structure Ok7 (n s k κ p a dp : D) : Prop where
  n : okN n
  s : sim s = true
  k : sim k = true
  κ : okK κ
  p : sim p = true
  a : sim a = true ∧ ∀ xs, a = .tup xs → (∀ x ∈ xs, sim x = true) ∧ xs.length ≤ 1000
  d : sim dp = true
theorem both7 {n s k κ p a dp : D} (h : Ok7 n s k κ p a dp) : ∃ b, d_is_sound [.tup [n, s, k, κ, p, a, dp]] = .ok (.bl (nameOK n && (isB 2147483647 s && isB 8 p && isB 4 dp && (b && words AS a)))) ∧ d__law_due [.tup [n, s, k, κ, p, a, dp]] = .ok (.bl (nameOK n && (isB 2147483647 s && isB 8 p && isB 4 dp && (b && words AS a)))) ∧ ∀ s ws, k = .str s → κ = .tup (dStrs ws) → (∀ s ∈ ws, KS.any (· == s) = true) → ws.length ≤ 1000 → b = ev ws s (tagP ws) := by
  obtain ⟨b, k1, k2, k3⟩ := kind_both k κ h.k h.κ
  have pn := sim_pure n h.n.1
  have ps := sim_pure s h.s
  have pk := sim_pure k h.k
  have pκ := sim_pure κ h.κ.1
  have pp := sim_pure p h.p
  have pa := sim_pure a h.a.1
  have pd := sim_pure dp h.d
  have hp : D.pureL [n, s, k, κ, p, a, dp] = true := by simp [pn, ps, pk, pκ, pp, pa, pd]
  refine ⟨b, snd_core n s k κ p a dp _ _ _ _ _ _ hp ps pp pd pk pκ pa (nm_step n _ s k κ p a dp h.n) (m_btw s _ h.s) (m_btw p _ h.p) (m_btw dp _ h.d) k1 ?_, due_core n s k κ p a dp _ _ _ _ _ _ _ (dStrs_pure AS) m_acts ps pp pd pk pκ pa (ln_step n s k κ p a dp h.n) (m_num s _ h.s) (m_num p _ h.p) (m_num dp _ h.d) k2 (m_lwords a AS h.a.1 h.a.2), k3⟩
  rw [AS_D]
  exact m_words a AS h.a.1 h.a.2

end
set_option maxRecDepth 100000
set_option maxHeartbeats 4000000
open PySem PySem.Spec PyProof.Rows L2 Dv
noncomputable section
theorem row1_core (c n l k : Int) (bs : List Int) (x4 : Option D) (r : Int) (hr : Builtin.bitAnd l 255 = r) (hb : bs.length < 16777216) :
    lp__law_row_1 [some (.int c), some (.int n), some (.lst true (dInts bs)), some (.int l), x4, some (.int k)] = .nx [some (.int c), some (.int n), some (.lst true (dInts (bs ++ [r]))), some (.int (l / 2 ^ 8)), x4, some (.int k)] := by
  simp [lp__law_row_1, hr, onL, hb]
theorem row2_core (c n l s k s' r : Int) (bs : List Int) (hs : s * 48271 % 2147483647 = s') (hr : Builtin.bitAnd (s' / 7 + s') 255 = r) (hb : bs.length < 16777216) :
    lp__law_row_2 [some (.int c), some (.int n), some (.lst true (dInts bs)), some (.int l), some (.int s), some (.int k)] = .nx [some (.int c), some (.int n), some (.lst true (dInts (bs ++ [r]))), some (.int l), some (.int s'), some (.int k)] := by
  simp [lp__law_row_2, hs, hr, onL, hb]
theorem row_end1 (c n l : Int) (N : Nat) (hl : (if c < 0 then -c else c) = l) (wn : W62 n) (hN : n.toNat = N) (hc : (10 : Int) ^ 18 ≤ l) (bs : List Int) (a b d : Option D) (e : forL (gNm 5) lp__law_row_1 (rngL 0 N) [some (.int c), some (.int n), some (.lst true []), some (.int l), none, none] = .nx [some (.int c), some (.int n), some (.lst true (dInts bs)), a, b, d]) :
    d__law_row [.int c, .int n] = .ok (.lst true (dInts bs)) := by
  have hc' : (1000000000000000000 : Int) ≤ l := hc
  simp [d__law_row, b__law_row, fnD, hl, wn, hN, hc', e]
theorem row_end2 (c n l s : Int) (N : Nat) (hl : (if c < 0 then -c else c) = l) (hs : l % 2147483629 + 1 = s) (wn : W62 n) (hN : n.toNat = N) (hc : ¬ (10 : Int) ^ 18 ≤ l) (bs : List Int) (a b d : Option D) (e : forL (gNm 5) lp__law_row_2 (rngL 0 N) [some (.int c), some (.int n), some (.lst true []), some (.int l), some (.int s), none] = .nx [some (.int c), some (.int n), some (.lst true (dInts bs)), a, b, d]) :
    d__law_row [.int c, .int n] = .ok (.lst true (dInts bs)) := by
  have hc' : ¬ (1000000000000000000 : Int) ≤ l := hc
  simp [d__law_row, b__law_row, fnD, hl, hs, wn, hN, hc', e]
theorem m_row (c : Int) (n : Nat) (hn : n ≤ 1000) : ∃ bs : List Int, d__law_row [.int c, .int n] = .ok (.lst true (dInts bs)) ∧ bs.length = n := by
  by_cases hc : (10 : Int) ^ 18 ≤ (if c < 0 then -c else c)
  · obtain ⟨ρ', e, bs, l, b, d, rfl, h1⟩ := for_rng (g := gNm 5) (b := lp__law_row_1) (fun j ρ => ∃ (bs : List Int) (l : Int) (b d : Option D), ρ = [some (.int c), some (.int n), some (.lst true (dInts bs)), some (.int l), b, d] ∧ bs.length = j)
      n [some (.int c), some (.int n), some (.lst true []), some (.int (if c < 0 then -c else c)), none, none] (fun j ρ hj H => by
        obtain ⟨bs, l, b, d, rfl, h1⟩ := H
        exact ⟨_, _, rfl, .inl (row1_core c n l j bs b _ rfl (by omega)), _, _, _, _, rfl, by rw [List.length_append, h1]; rfl⟩) ⟨[], _, none, none, rfl, rfl⟩
    exact ⟨bs, row_end1 c n _ n rfl (w62 (by omega) (by omega)) (Int.toNat_natCast n) hc bs _ b d e, h1⟩
  · obtain ⟨ρ', e, bs, s, d, rfl, h1⟩ := for_rng (g := gNm 5) (b := lp__law_row_2) (fun j ρ => ∃ (bs : List Int) (s : Int) (d : Option D), ρ = [some (.int c), some (.int n), some (.lst true (dInts bs)), some (.int (if c < 0 then -c else c)), some (.int s), d] ∧ bs.length = j)
      n [some (.int c), some (.int n), some (.lst true []), some (.int (if c < 0 then -c else c)), some (.int ((if c < 0 then -c else c) % 2147483629 + 1)), none] (fun j ρ hj H => by
        obtain ⟨bs, s, d, rfl, h1⟩ := H
        exact ⟨_, _, rfl, .inl (row2_core c n _ s j _ _ bs rfl rfl (by omega)), _, _, _, rfl, by rw [List.length_append, h1]; rfl⟩) ⟨[], _, none, rfl, rfl⟩
    exact ⟨bs, row_end2 c n _ _ n rfl rfl (w62 (by omega) (by omega)) (Int.toNat_natCast n) hc bs _ _ d e, h1⟩

def pc_b__law_facts_1 : Dv.Env → SR := sAsg 2 (eB gAbs (aV (eCall 2 d__law_cell (aV (eVar 0) (aV (eVar 1) (aNil)))) (aNil)))
def pc_b__law_facts_2 : Dv.Env → SR := sAsg 3 (eLstM (mNil))
def pc_b__law_facts_3 : Dv.Env → SR := sIf (eT (e2 gGt (e2 gMod (eB gInt (aV (eVar 2) (aNil))) (eC (.int 5))) (eC (.int 0)))) (sApp 3 (asOwn (e2 gIx (eCall 0 d__law_kinds aNil) (e2 gSub (e2 gMod (eB gInt (aV (eVar 2) (aNil))) (eC (.int 5))) (eC (.int 1)))))) (sNil)
def pc_b__law_facts_4 : Dv.Env → SR := sIf (eT (e2 gEq (e2 gAndB (eB gInt (aV (e2 gDiv (eVar 2) (eC (.int 5))) (aNil))) (eC (.int 1))) (eC (.int 1)))) (sApp 3 (eC (.str "folio"))) (sNil)
def pc_b__law_facts_5 : Dv.Env → SR := sIf (eT (e2 gEq (e2 gAndB (eB gInt (aV (e2 gDiv (eVar 2) (eC (.int 10))) (aNil))) (eC (.int 1))) (eC (.int 1)))) (sApp 3 (eC (.str "crate"))) (sNil)
def pc_b__law_facts_6 : Dv.Env → SR := sAsg 4 (eC (.str ""))
def pc_b__law_facts_7 : Dv.Env → SR := sIf (eT (e2 gGt (eB gLen (aV (eVar 3) (aNil))) (eC (.int 0)))) (sAsg 4 (asOwn (e2 gIx (eVar 3) (eC (.int 0))))) (sNil)
def pc_b__law_facts_8 : Dv.Env → SR := sIf (tAndF (eT (e2 gEq (eVar 3) (eLst (aO (eC (.str "folio")) (aO (eC (.str "crate")) (aNil)))))) (eT (e2 gEq (e2 gAndB (eB gInt (aV (e2 gDiv (eVar 2) (eC (.int 20))) (aNil))) (eC (.int 1))) (eC (.int 1))))) (sAsg 4 (eC (.str "crate"))) (sNil)
def pc_b__law_facts_9 : Dv.Env → SR := sAsg 5 (eB gTuple (aV (eLc (iO (eCall 2 d__law_row (aO (eCall 2 d__law_cell (aV (eVar 0) (aO (e2 gAdd (eVar 1) (eC (.int 1))) (aNil)))) (aO (e2 gMod (eB gInt (aV (e2 gDiv (eVar 2) (eC (.int 40))) (aNil))) (eC (.int 9))) (aNil))))) (gNm 8) (tYes) (asOwn (e2 gIx (eLst (aO (eC (.int 97)) (aO (eC (.int 98)) (aO (eC (.int 42)) (aO (eC (.int 46)) (aO (eC (.int 99)) (aNil))))))) (e2 gMod (eB gInt (aV (eVar 8) (aNil))) (eC (.int 5))))) [8]) (aNil)))
def pc_b__law_facts_10 : Dv.Env → SR := sAsg 6 (eB gTuple (aV (eLc (iO (eCall 2 d__law_row (aO (eCall 2 d__law_cell (aV (eVar 0) (aO (e2 gAdd (eVar 1) (eC (.int 2))) (aNil)))) (aO (e2 gMod (eB gInt (aV (e2 gDiv (eVar 2) (eC (.int 360))) (aNil))) (eC (.int 5))) (aNil))))) (gNm 8) (tYes) (asOwn (e2 gIx (eCall 0 d__law_acts aNil) (e2 gMod (eB gInt (aV (eVar 8) (aNil))) (eC (.int 6))))) [8]) (aNil)))
def pc_b__law_facts_11 : Dv.Env → SR := sAsg 7 (asOwn (e2 gIx (eLst (aO (e2 gMod (eB gInt (aV (e2 gDiv (eVar 2) (eC (.int 1800))) (aNil))) (eC (.int 12))) (aO (eC (.int 2147483647)) (aO (e2 gAdd (eC (.int 99)) (e2 gMod (eB gInt (aV (e2 gDiv (eVar 2) (eC (.int 1800))) (aNil))) (eC (.int 3)))) (aNil))))) (e2 gMod (eB gInt (aV (e2 gDiv (eVar 2) (eC (.int 21600))) (aNil))) (eC (.int 3)))))
def pc_b__law_facts_12 : Dv.Env → SR := sRet (eTupM (mM 5 (mM 7 (mM 4 (mO (eB gTuple (aV (eVar 3) (aNil))) (mO (e2 gMod (eB gInt (aV (e2 gDiv (eVar 2) (eC (.int 64800))) (aNil))) (eC (.int 9))) (mM 6 (mO (e2 gMod (eB gInt (aV (e2 gDiv (eVar 2) (eC (.int 583200))) (aNil))) (eC (.int 5))) (mNil)))))))))
theorem pc_b__law_facts : b__law_facts = sq pc_b__law_facts_1 (sq pc_b__law_facts_2 (sq pc_b__law_facts_3 (sq pc_b__law_facts_4 (sq pc_b__law_facts_5 (sq pc_b__law_facts_6 (sq pc_b__law_facts_7 (sq pc_b__law_facts_8 (sq pc_b__law_facts_9 (sq pc_b__law_facts_10 (sq pc_b__law_facts_11 (pc_b__law_facts_12))))))))))) := rfl

def fo : Str := Str.ofString "folio"
def cr : Str := Str.ofString "crate"
def W1 (a : Nat) : List Str := if a = 0 then [] else [KS.getD (a - 1) fo]
def W2 (a : Nat) (b : Bool) : List Str := W1 a ++ if b then [fo] else []
def W3 (a : Nat) (b b' : Bool) : List Str := W2 a b ++ if b' then [cr] else []
def kd (ws : List Str) (f : Bool) : Str := if (ws == FC) && f then cr else ws.headD (Str.ofString "")
theorem W3_ok : ∀ a, a < 5 → ∀ b b' f : Bool, (∀ s ∈ W3 a b b', KS.any (· == s) = true) ∧ (W3 a b b').length ≤ 3 ∧ tagP (W3 a b b') = tagL (W3 a b b') ∧ ev (W3 a b b') (kd (W3 a b b') f) (tagP (W3 a b b')) = true := by decide +kernel
theorem f12 (S : List Int) (at' c c0 : Int) (h : d__law_cell [.scr (dInts S), .int at'] = .ok (.int c0)) (hc : (if c0 < 0 then -c0 else c0) = c) : pc_b__law_facts_1 [some (.scr (dInts S)), some (.int at'), none, none, none, none, none, none, none] = .nx [some (.scr (dInts S)), some (.int at'), some (.int c), none, none, none, none, none, none] ∧ pc_b__law_facts_2 [some (.scr (dInts S)), some (.int at'), some (.int c), none, none, none, none, none, none] = .nx [some (.scr (dInts S)), some (.int at'), some (.int c), some (.lst true (dStrs [])), none, none, none, none, none] := by
  constructor
  · simp [pc_b__law_facts_1, callF, h, hc]
  · simp [pc_b__law_facts_2, dStrs]
theorem f3 (x0 x1 x4 x5 x6 x7 x8 : Option D) (c r i : Int) (a : Nat) (w : Str) (hr : c % 5 = r) (ha : r = (a : Int)) (hi : r - 1 = i) (hg : a ≠ 0 → ixD (dStrs KS) i = some (.str w) ∧ W1 a = [w]) : pc_b__law_facts_3 [x0, x1, some (.int c), some (.lst true (dStrs [])), x4, x5, x6, x7, x8] = .nx [x0, x1, some (.int c), some (.lst true (dStrs (W1 a))), x4, x5, x6, x7, x8] := by
  by_cases h : a = 0
  · subst h
    have r0 : ¬ 0 < r := by omega
    have e : W1 0 = [] := rfl
    rw [e]
    simp [pc_b__law_facts_3, hr, r0]
  · have r0 : 0 < r := by omega
    obtain ⟨g1, g2⟩ := hg h
    have hk := m_kinds
    have e0 : dStrs [] = [] := rfl
    have e1 : dStrs [w] = [.str w] := rfl
    rw [g2, e0, e1]
    simp [pc_b__law_facts_3, hr, r0, hi, callF, hk, g1, onL]
theorem f4 (x0 x1 x4 x5 x6 x7 x8 : Option D) (c r : Int) (ws : List Str) (b : Bool) (hr : Builtin.bitAnd (c / 5) 1 = r) (hb : b = decide (r = 1)) (hl : ws.length ≤ 10) : pc_b__law_facts_4 [x0, x1, some (.int c), some (.lst true (dStrs ws)), x4, x5, x6, x7, x8] = .nx [x0, x1, some (.int c), some (.lst true (dStrs (ws ++ if b then [fo] else []))), x4, x5, x6, x7, x8] := by
  have hl' : (dStrs ws).length < 16777216 := by rw [dStrs_len]; omega
  by_cases h : r = 1
  · rw [hb, decide_eq_true h]
    simp [pc_b__law_facts_4, hr, h, onL, hl', dStrs, fo]
    omega
  · rw [hb, decide_eq_false h]
    simp [pc_b__law_facts_4, hr, h]
theorem f5 (x0 x1 x4 x5 x6 x7 x8 : Option D) (c r : Int) (ws : List Str) (b : Bool) (hr : Builtin.bitAnd (c / 10) 1 = r) (hb : b = decide (r = 1)) (hl : ws.length ≤ 10) : pc_b__law_facts_5 [x0, x1, some (.int c), some (.lst true (dStrs ws)), x4, x5, x6, x7, x8] = .nx [x0, x1, some (.int c), some (.lst true (dStrs (ws ++ if b then [cr] else []))), x4, x5, x6, x7, x8] := by
  have hl' : (dStrs ws).length < 16777216 := by rw [dStrs_len]; omega
  by_cases h : r = 1
  · rw [hb, decide_eq_true h]
    simp [pc_b__law_facts_5, hr, h, onL, hl', dStrs, cr]
    omega
  · rw [hb, decide_eq_false h]
    simp [pc_b__law_facts_5, hr, h]
theorem f678 (x0 x1 x4 x5 x6 x7 x8 : Option D) (c r : Int) (ws : List Str) (f : Bool) (hr : Builtin.bitAnd (c / 20) 1 = r) (hb : f = decide (r = 1)) (hok : ∀ s ∈ ws, PyData.strOk s = true) : ∃ ρ ρ2, pc_b__law_facts_6 [x0, x1, some (.int c), some (.lst true (dStrs ws)), x4, x5, x6, x7, x8] = .nx ρ ∧ pc_b__law_facts_7 ρ = .nx ρ2 ∧ pc_b__law_facts_8 ρ2 = .nx [x0, x1, some (.int c), some (.lst true (dStrs ws)), some (.str (kd ws f)), x5, x6, x7, x8] := by
  have he := gEq_strs true true ws FC hok (by decide +kernel)
  have e0 : dStrs FC = [D.str (Str.ofString "folio"), .str (Str.ofString "crate")] := rfl
  rw [e0] at he
  have ls := dStrs_len ws
  refine ⟨[x0, x1, some (.int c), some (.lst true (dStrs ws)), some (.str (Str.ofString "")), x5, x6, x7, x8], [x0, x1, some (.int c), some (.lst true (dStrs ws)), some (.str (ws.headD (Str.ofString ""))), x5, x6, x7, x8], by simp [pc_b__law_facts_6], ?_, ?_⟩
  · cases ws with
    | nil => simp [pc_b__law_facts_7, dStrs]
    | cons w ws =>
      have i0 : ixD (dStrs (w :: ws)) 0 = some (.str w) := rfl
      have l0 : 0 < (((w :: ws).length : Nat) : Int) := by simp
      have l1 : 0 < (w :: ws).length := by simp
      simp only [List.headD_cons]
      generalize w :: ws = ws at *
      simp [pc_b__law_facts_7, ls, l0, l1, i0]
  · unfold kd
    cases q : ws == FC with
    | false => rw [q] at he; simp [pc_b__law_facts_8, he]
    | true =>
      rw [q] at he
      by_cases h : r = 1
      · rw [hb, decide_eq_true h]
        simp [pc_b__law_facts_8, he, hr, h, cr]
      · rw [hb, decide_eq_false h]
        simp [pc_b__law_facts_8, he, hr, h]
def N5 : List Int := [97, 98, 42, 46, 99]
def nmD : D → D
  | .int b => .int (N5.getD (b % 5).toNat 0)
  | d => d
def acD : D → D
  | .int b => .str (AS.getD (b % 6).toNat fo)
  | d => d
theorem N5_get (b : Int) : ixD [D.int 97, .int 98, .int 42, .int 46, .int 99] (b % 5) = some (.int (N5.getD (b % 5).toNat 0)) ∧ isB 255 (.int (N5.getD (b % 5).toNat 0)) = true := by
  obtain ⟨k, hk⟩ := Int.eq_ofNat_of_zero_le (show 0 ≤ b % 5 by omega)
  have k5 : k < 5 := by omega
  rw [hk, Int.toNat_natCast]
  have : ∀ k : Nat, k < 5 → isB 255 (.int (N5.getD k 0)) = true := by decide +kernel
  refine ⟨?_, this k k5⟩
  show ixD (dInts N5) ((k : Nat) : Int) = _
  rw [ixD_nat, dInts_get, List.getD_eq_getElem?_getD, List.getElem?_eq_getElem (show k < N5.length from k5)]
  rfl
theorem AS_get (b : Int) : ixD (dStrs AS) (b % 6) = some (.str (AS.getD (b % 6).toNat fo)) ∧ isW AS (.str (AS.getD (b % 6).toNat fo)) = true := by
  obtain ⟨k, hk⟩ := Int.eq_ofNat_of_zero_le (show 0 ≤ b % 6 by omega)
  have k5 : k < 6 := by omega
  rw [hk, Int.toNat_natCast]
  have : ∀ k : Nat, k < 6 → isW AS (.str (AS.getD k fo)) = true := by decide +kernel
  refine ⟨?_, this k k5⟩
  show ixD (AS.map D.str) ((k : Nat) : Int) = _
  rw [ixD_nat, List.getElem?_map, List.getD_eq_getElem?_getD, List.getElem?_eq_getElem (show k < AS.length from k5)]
  rfl
theorem nm_item (x0 x1 x2 x3 x4 x5 x6 x7 : Option D) (b r v : Int) (hr : b % 5 = r) (h : ixD [D.int 97, .int 98, .int 42, .int 46, .int 99] r = some (.int v)) : asOwn (e2 gIx (eLst (aO (eC (.int 97)) (aO (eC (.int 98)) (aO (eC (.int 42)) (aO (eC (.int 46)) (aO (eC (.int 99)) (aNil))))))) (e2 gMod (eB gInt (aV (eVar 8) (aNil))) (eC (.int 5)))) [x0, x1, x2, x3, x4, x5, x6, x7, some (.int b)] = .ok (.int v) := by
  simp [hr, h]
theorem ac_item (x0 x1 x2 x3 x4 x5 x6 x7 : Option D) (b r : Int) (v : Str) (A : List D) (hA : d__law_acts [] = .ok (.lst true A)) (nA : D.noFzL A = true) (hr : b % 6 = r) (h : ixD A r = some (.str v)) : asOwn (e2 gIx (eCall 0 d__law_acts aNil) (e2 gMod (eB gInt (aV (eVar 8) (aNil))) (eC (.int 6)))) [x0, x1, x2, x3, x4, x5, x6, x7, some (.int b)] = .ok (.str v) := by
  simp [callF, hA, nA, hr, h]
theorem f9 (S bs : List Int) (at' c c1 n : Int) (x3 x4 x6 x7 : Option D) (N : List D) (h : d__law_cell [.scr (dInts S), .int (at' + 1)] = .ok (.int c1)) (hn : c / 40 % 9 = n) (hb : d__law_row [.int c1, .int n] = .ok (.lst true (dInts bs))) (pN : D.pureL N = true)
    (hl : lcL (gNm 8) tYes (asOwn (e2 gIx (eLst (aO (eC (.int 97)) (aO (eC (.int 98)) (aO (eC (.int 42)) (aO (eC (.int 46)) (aO (eC (.int 99)) (aNil))))))) (e2 gMod (eB gInt (aV (eVar 8) (aNil))) (eC (.int 5))))) [some (.scr (dInts S)), some (.int at'), some (.int c), x3, x4, none, x6, x7, none] (dInts bs) [] = .ok (.lst true N)) :
    pc_b__law_facts_9 [some (.scr (dInts S)), some (.int at'), some (.int c), x3, x4, none, x6, x7, none] = .nx [some (.scr (dInts S)), some (.int at'), some (.int c), x3, x4, some (.tup N), x6, x7, none] := by
  simp [pc_b__law_facts_9, callF, h, hn, hb, hl, pN]
theorem f10 (S bs : List Int) (at' c c1 n : Int) (x3 x4 x5 x7 : Option D) (N : List D) (h : d__law_cell [.scr (dInts S), .int (at' + 2)] = .ok (.int c1)) (hn : c / 360 % 5 = n) (hb : d__law_row [.int c1, .int n] = .ok (.lst true (dInts bs))) (pN : D.pureL N = true)
    (hl : lcL (gNm 8) tYes (asOwn (e2 gIx (eCall 0 d__law_acts aNil) (e2 gMod (eB gInt (aV (eVar 8) (aNil))) (eC (.int 6))))) [some (.scr (dInts S)), some (.int at'), some (.int c), x3, x4, x5, none, x7, none] (dInts bs) [] = .ok (.lst true N)) :
    pc_b__law_facts_10 [some (.scr (dInts S)), some (.int at'), some (.int c), x3, x4, x5, none, x7, none] = .nx [some (.scr (dInts S)), some (.int at'), some (.int c), x3, x4, x5, some (.tup N), x7, none] := by
  simp [pc_b__law_facts_10, callF, h, hn, hb, hl, pN]
theorem f11 (x0 x1 x3 x4 x5 x6 x8 : Option D) (c a b r v : Int) (ha : c / 1800 % 12 = a) (hb : 99 + c / 1800 % 3 = b) (hr : c / 21600 % 3 = r) (hv : ixD [D.int a, .int 2147483647, .int b] r = some (.int v)) : pc_b__law_facts_11 [x0, x1, some (.int c), x3, x4, x5, x6, none, x8] = .nx [x0, x1, some (.int c), x3, x4, x5, x6, some (.int v), x8] := by
  simp [pc_b__law_facts_11, ha, hb, hr, hv]
theorem f12r (x0 x1 x8 : Option D) (c v pg dp : Int) (ws : List Str) (k : Str) (N A : List D) (h1 : c / 64800 % 9 = pg) (h2 : c / 583200 % 5 = dp) : (pc_b__law_facts_12 [x0, x1, some (.int c), some (.lst true (dStrs ws)), some (.str k), some (.tup N), some (.tup A), some (.int v), x8]).out = .ok (.tup [.tup N, .int v, .str k, .tup (dStrs ws), .int pg, .tup A, .int dp]) := by
  have pw := dStrs_pure ws
  simp [pc_b__law_facts_12, h1, h2, pw]

end
set_option maxRecDepth 100000
set_option maxHeartbeats 4000000
open PySem PySem.Spec PyProof.Rows L2 Dv
noncomputable section
theorem and1 (n : Int) (h : 0 ≤ n) : Builtin.bitAnd n 1 = n % 2 := Bits.bitAnd_mask 1 h
theorem m_facts (S : List Int) : ∃ (n s k κ p a dp : D), d__law_facts [.scr (dInts S), .int 0] = .ok (.tup [n, s, k, κ, p, a, dp]) ∧ Ok7 n s k κ p a dp ∧ d_is_sound [.tup [n, s, k, κ, p, a, dp]] = .ok (.bl true) ∧ d__law_due [.tup [n, s, k, κ, p, a, dp]] = .ok (.bl true) := by
  obtain ⟨c, hc⟩ := Int.eq_ofNat_of_zero_le (show 0 ≤ (if cell S 0 < 0 then -cell S 0 else cell S 0) by split <;> omega)
  obtain ⟨a, ha⟩ : ∃ a : Nat, (c : Int) % 5 = (a : Int) := Int.eq_ofNat_of_zero_le (by omega)
  have a5 : a < 5 := by omega
  obtain ⟨n1, hn1⟩ : ∃ n : Nat, (c : Int) / 40 % 9 = (n : Int) := Int.eq_ofNat_of_zero_le (by omega)
  obtain ⟨n2, hn2⟩ : ∃ n : Nat, (c : Int) / 360 % 5 = (n : Int) := Int.eq_ofNat_of_zero_le (by omega)
  obtain ⟨bs, hb, lb⟩ := m_row (cell S 1) n1 (by omega)
  obtain ⟨cs, hcs, lc⟩ := m_row (cell S 2) n2 (by omega)
  obtain ⟨w1, w2, w3, w4⟩ := W3_ok a a5 (decide ((c : Int) / 5 % 2 = 1)) (decide ((c : Int) / 10 % 2 = 1)) (decide ((c : Int) / 20 % 2 = 1))
  have l1 : (W1 a).length ≤ 1 := by unfold W1; split <;> simp
  have l2 : (W2 a (decide ((c : Int) / 5 % 2 = 1))).length ≤ 2 := by unfold W2; rw [List.length_append]; split <;> simp <;> omega
  obtain ⟨e1, e2⟩ := f12 S 0 c _ (m_cell S 0) hc
  have e3 := f3 (some (.scr (dInts S))) (some (.int 0)) none none none none none c _ ((a : Int) - 1) a (KS.getD (a - 1) fo) rfl ha (by rw [ha]) fun h => by
    refine ⟨?_, by unfold W1; rw [if_neg h]⟩
    rw [show (a : Int) - 1 = ((a - 1 : Nat) : Int) by omega]
    show ixD (KS.map D.str) ((a - 1 : Nat) : Int) = _
    have : a - 1 < KS.length := by show a - 1 < 6; omega
    rw [ixD_nat, List.getElem?_map, List.getD_eq_getElem?_getD, List.getElem?_eq_getElem this]
    rfl
  have e4 := f4 (some (.scr (dInts S))) (some (.int 0)) none none none none none c _ (W1 a) _ (and1 _ (by omega)) rfl (by omega)
  have e5 := f5 (some (.scr (dInts S))) (some (.int 0)) none none none none none c _ (W2 a (decide ((c : Int) / 5 % 2 = 1))) _ (and1 _ (by omega)) rfl (by omega)
  obtain ⟨ρ6, ρ7, e6, e7, e8⟩ := f678 (some (.scr (dInts S))) (some (.int 0)) none none none none none c _ (W3 a (decide ((c : Int) / 5 % 2 = 1)) (decide ((c : Int) / 10 % 2 = 1))) _ (and1 _ (by omega)) rfl fun s hs => any_ok (w1 s hs)
  have pN : ∀ d ∈ (dInts bs).map nmD, sim d = true ∧ isB 255 d = true := fun d hd => by
    obtain ⟨d', hd', rfl⟩ := List.mem_map.mp hd
    obtain ⟨b, _, rfl⟩ := List.mem_map.mp hd'
    exact ⟨rfl, (N5_get b).2⟩
  have pA : ∀ d ∈ (dInts cs).map acD, sim d = true ∧ isW AS d = true := fun d hd => by
    obtain ⟨d', hd', rfl⟩ := List.mem_map.mp hd
    obtain ⟨b, _, rfl⟩ := List.mem_map.mp hd'
    exact ⟨rfl, (AS_get b).2⟩
  have lN : ((dInts bs).map nmD).length ≤ 1000 := by rw [List.length_map, dInts_len]; omega
  have lA : ((dInts cs).map acD).length ≤ 1000 := by rw [List.length_map, dInts_len]; omega
  have e9 := fun (x3 x4 x6 x7 : Option D) => f9 S bs 0 c _ _ x3 x4 x6 x7 ((dInts bs).map nmD) (m_cell S 1) hn1 hb (sims_pure _ fun d hd => (pN d hd).1) (by
    rw [lcL_map nmD _ (fun d hd => by
      obtain ⟨b, _, rfl⟩ := List.mem_map.mp hd
      exact ⟨[some (.scr (dInts S)), some (.int 0), some (.int c), x3, x4, none, x6, x7, some (.int b)], rfl, rfl, nm_item _ _ _ _ _ _ _ _ b _ _ rfl (N5_get b).1⟩) (by rw [dInts_len]; omega)])
  have e10 := fun (x3 x4 x5 x7 : Option D) => f10 S cs 0 c _ _ x3 x4 x5 x7 ((dInts cs).map acD) (m_cell S 2) hn2 hcs (sims_pure _ fun d hd => (pA d hd).1) (by
    rw [lcL_map acD _ (fun d hd => by
      obtain ⟨b, _, rfl⟩ := List.mem_map.mp hd
      exact ⟨[some (.scr (dInts S)), some (.int 0), some (.int c), x3, x4, x5, none, x7, some (.int b)], rfl, rfl, ac_item _ _ _ _ _ _ _ _ b _ _ _ m_acts rfl rfl (AS_get b).1⟩) (by rw [dInts_len]; omega)])
  have hv : ∃ v : Int, ixD [D.int ((c : Int) / 1800 % 12), .int 2147483647, .int (99 + (c : Int) / 1800 % 3)] ((c : Int) / 21600 % 3) = some (.int v) ∧ 0 ≤ v ∧ v ≤ 2147483647 := by
    have : (c : Int) / 21600 % 3 = 0 ∨ (c : Int) / 21600 % 3 = 1 ∨ (c : Int) / 21600 % 3 = 2 := by omega
    rcases this with h | h | h <;> rw [h]
    · exact ⟨_, rfl, by omega, by omega⟩
    · exact ⟨_, rfl, by omega, by omega⟩
    · exact ⟨_, rfl, by omega, by omega⟩
  obtain ⟨v, hv, v0, v1⟩ := hv
  have e11 := fun (x0 x1 x3 x4 x5 x6 x8 : Option D) => f11 x0 x1 x3 x4 x5 x6 x8 c _ _ _ v rfl rfl rfl hv
  have e12 := f12r (some (.scr (dInts S))) (some (.int 0)) none c v _ _ (W3 a (decide ((c : Int) / 5 % 2 = 1)) (decide ((c : Int) / 10 % 2 = 1))) (kd (W3 a (decide ((c : Int) / 5 % 2 = 1)) (decide ((c : Int) / 10 % 2 = 1))) (decide ((c : Int) / 20 % 2 = 1))) ((dInts bs).map nmD) ((dInts cs).map acD) rfl rfl
  have ok : Ok7 (.tup ((dInts bs).map nmD)) (.int v) (.str (kd (W3 a (decide ((c : Int) / 5 % 2 = 1)) (decide ((c : Int) / 10 % 2 = 1))) (decide ((c : Int) / 20 % 2 = 1)))) (.tup (dStrs (W3 a (decide ((c : Int) / 5 % 2 = 1)) (decide ((c : Int) / 10 % 2 = 1))))) (.int ((c : Int) / 64800 % 9)) (.tup ((dInts cs).map acD)) (.int ((c : Int) / 583200 % 5)) := by
    refine ⟨⟨sims_pure _ fun d hd => (pN d hd).1, fun xs e => by cases e; exact ⟨fun d hd => (pN d hd).1, lN⟩⟩, rfl, rfl, ⟨dStrs_pure _, fun xs e => by cases e; exact ⟨fun x hx => by obtain ⟨s, _, rfl⟩ := List.mem_map.mp hx; rfl, by rw [dStrs_len]; omega⟩, .inr ⟨_, rfl, w1, by omega, w3⟩⟩, rfl, ⟨sims_pure _ fun d hd => (pA d hd).1, fun xs e => by cases e; exact ⟨fun d hd => (pA d hd).1, lA⟩⟩, rfl⟩
  obtain ⟨b, s1, s2, s3⟩ := both7 ok
  have hb1 : b = true := (s3 _ _ rfl rfl w1 (by omega)).trans w4
  have r1 : nameOK (.tup ((dInts bs).map nmD)) = true := List.all_eq_true.mpr fun d hd => (pN d hd).2
  have r2 : isB 2147483647 (.int v) = true := by simp [isB, v0, v1]
  have r3 : isB 8 (.int ((c : Int) / 64800 % 9)) = true := by
    show (decide (0 ≤ (c : Int) / 64800 % 9) && decide ((c : Int) / 64800 % 9 ≤ 8)) = true
    rw [decide_eq_true (by omega), decide_eq_true (by omega)]; rfl
  have r4 : isB 4 (.int ((c : Int) / 583200 % 5)) = true := by
    show (decide (0 ≤ (c : Int) / 583200 % 5) && decide ((c : Int) / 583200 % 5 ≤ 4)) = true
    rw [decide_eq_true (by omega), decide_eq_true (by omega)]; rfl
  have r5 : words AS (.tup ((dInts cs).map acD)) = true := List.all_eq_true.mpr fun d hd => (pA d hd).2
  rw [r1, r2, r3, r4, r5, hb1] at s1 s2
  refine ⟨_, _, _, _, _, _, _, ?_, ok, s1, s2⟩
  show SR.out (b__law_facts _) = _
  rw [pc_b__law_facts]
  show SR.out (sq pc_b__law_facts_1 _ [some (.scr (dInts S)), some (.int 0), none, none, none, none, none, none, none]) = _
  rw [sq_nx e1, sq_nx e2, sq_nx e3, sq_nx e4]
  show SR.out (sq pc_b__law_facts_5 _ [some (.scr (dInts S)), some (.int 0), some (.int c), some (.lst true (dStrs (W2 a (decide ((c : Int) / 5 % 2 = 1))))), none, none, none, none, none]) = _
  rw [sq_nx e5]
  show SR.out (sq pc_b__law_facts_6 _ [some (.scr (dInts S)), some (.int 0), some (.int c), some (.lst true (dStrs (W3 a (decide ((c : Int) / 5 % 2 = 1)) (decide ((c : Int) / 10 % 2 = 1))))), none, none, none, none, none]) = _
  rw [sq_nx e6, sq_nx e7, sq_nx e8, sq_nx (e9 _ _ _ _), sq_nx (e10 _ _ _ _), sq_nx (e11 _ _ _ _ _ _ _)]
  exact e12

end
set_option maxRecDepth 100000
set_option maxHeartbeats 4000000
open PySem PySem.Spec PyProof.Rows L2 Dv
noncomputable section
def pc_b__law_replaced_1 : Dv.Env → SR := sAsg 2 (e2 gMod (eB gInt (aV (eVar 1) (aNil))) (eC (.int 7)))
def pc_b__law_replaced_2 : Dv.Env → SR := sAsg 3 (eB gInt (aV (e2 gDiv (eVar 1) (eC (.int 7))) (aNil)))
def pc_b__law_replaced_3 : Dv.Env → SR := sAsg 4 (eB gList (aV (eVar 0) (aNil)))
def pc_b__law_replaced_4 : Dv.Env → SR := sAsg 5 (eLstM (mO (eLstM (mO (eTupM (mO (eC (.int 256)) (mNil))) (mO (eTupM (mO (e1 gNeg (eC (.int 1))) (mNil))) (mO (eLstM (mO (eC (.int 97)) (mNil))) (mO (eC (.str "a")) (mO (eTupM (mO (eC (.bl true)) (mNil))) (mO (eTupM (mNil)) (mNil)))))))) (mO (eLstM (mO (e1 gNeg (eC (.int 1))) (mO (eC (.int 2147483648)) (mO (eC (.bl true)) (mO (eC (.str "1")) (mO (eC (.int 0)) (mNil))))))) (mO (eLstM (mO (eC (.str "folio")) (mO (eC (.str "crate")) (mO (eC (.str "")) (mO (eC (.str "still")) (mO (eC (.str "mail")) (mO (eC .non) (mNil)))))))) (mO (eLstM (mO (eTupM (mO (eC (.str "crate")) (mO (eC (.str "folio")) (mNil)))) (mO (eTupM (mO (eC (.str "still")) (mO (eC (.str "film")) (mNil)))) (mO (eTupM (mO (eC (.str "folio")) (mO (eC (.str "folio")) (mNil)))) (mO (eTupM (mO (eC (.str "mail")) (mNil))) (mO (eLstM (mO (eC (.str "still")) (mNil))) (mO (eTupM (mO (eC (.str "film")) (mO (eC (.str "crate")) (mNil)))) (mO (eTupM (mNil)) (mNil))))))))) (mO (eLstM (mO (eC (.int 9)) (mO (e1 gNeg (eC (.int 1))) (mO (eC (.int 8)) (mO (eC (.bl false)) (mO (eC .non) (mNil))))))) (mO (eLstM (mO (eTupM (mO (eC (.str "script")) (mO (eC (.str "link")) (mNil)))) (mO (eTupM (mO (eC (.str "run")) (mNil))) (mO (eLstM (mO (eC (.str "open")) (mNil))) (mO (eTupM (mO (eC (.int 1)) (mNil))) (mO (eTupM (mNil)) (mNil))))))) (mO (eLstM (mO (eC (.int 5)) (mO (e1 gNeg (eC (.int 1))) (mO (eC (.int 4)) (mO (eC (.bl true)) (mNil)))))) (mNil)))))))))
def pc_b__law_replaced_5 : Dv.Env → SR := sFz 5 (sSet 4 (eVar 2) (asOwn (e2 gIx (e2 gIx (eVar 5) (eVar 2)) (e2 gMod (eVar 3) (eB gLen (aV (e2 gIx (eVar 5) (eVar 2)) (aNil)))))))
def pc_b__law_replaced_6 : Dv.Env → SR := sRet (eB gTuple (aV (eVar 4) (aNil)))
theorem pc_b__law_replaced : b__law_replaced = sq pc_b__law_replaced_1 (sq pc_b__law_replaced_2 (sq pc_b__law_replaced_3 (sq pc_b__law_replaced_4 (sq pc_b__law_replaced_5 (pc_b__law_replaced_6))))) := rfl

def st (x : String) : D := .str (Str.ofString x)
def MN (o : Bool) : List D := [
  .lst o [.tup [.int 256], .tup [.int (-1)], .lst o [.int 97], st "a", .tup [.bl true], .tup []],
  .lst o [.int (-1), .int 2147483648, .bl true, st "1", .int 0],
  .lst o [st "folio", st "crate", st "", st "still", st "mail", .non],
  .lst o [.tup [st "crate", st "folio"], .tup [st "still", st "film"], .tup [st "folio", st "folio"], .tup [st "mail"], .lst o [st "still"], .tup [st "film", st "crate"], .tup []],
  .lst o [.int 9, .int (-1), .int 8, .bl false, .non],
  .lst o [.tup [st "script", st "link"], .tup [st "run"], .lst o [st "open"], .tup [.int 1], .tup []],
  .lst o [.int 5, .int (-1), .int 4, .bl true]]
theorem MN_cold : (D.lst true (MN true)).cold = true := rfl
theorem MN_frz : (D.lst true (MN true)).frz = .lst false (MN false) := rfl
theorem r5 (x0 x1 x2 x3 x4 x5 : Option D) : pc_b__law_replaced_4 [x0, x1, x2, x3, x4, x5] = .nx [x0, x1, x2, x3, x4, some (.lst true (MN true))] := by
  simp [pc_b__law_replaced_4, MN, st]
theorem rp_core (L ms : List D) (q j l m r : Int) (jj : Nat) (M : D) (MF : List D) (it : D) (pL : D.pureL L = true) (lL : L.length = 7) (hj : q % 7 = j) (hl : q / 7 = l) (h5 : ∀ x0 x1 x2 x3 x4 x5 : Option D, pc_b__law_replaced_4 [x0, x1, x2, x3, x4, x5] = .nx [x0, x1, x2, x3, x4, some M]) (cM : M.cold = true) (fM : M.frz = .lst false MF) (h1 : ixD MF j = some (.lst false ms)) (hm : (ms.length : Int) = m) (m0 : 0 < m) (hr : l % m = r) (h2 : ixD ms r = some it) (pi : it.pure = true) (hk : L2.ixN 7 j = some jj) (pS : D.pureL (L.set jj it) = true) :
    d__law_replaced [.tup L, .int q] = .ok (.tup (L.set jj it)) := by
  have hl7 : L.length ≤ 16777216 := by omega
  have m0' : 0 < ms.length := by omega
  have e1 : pc_b__law_replaced_1 [some (.tup L), some (.int q), none, none, none, none] = .nx [some (.tup L), some (.int q), some (.int j), none, none, none] := by
    simp [pc_b__law_replaced_1, hj]
  have e2 : pc_b__law_replaced_2 [some (.tup L), some (.int q), some (.int j), none, none, none] = .nx [some (.tup L), some (.int q), some (.int j), some (.int l), none, none] := by
    simp [pc_b__law_replaced_2, hl]
  have e3 : pc_b__law_replaced_3 [some (.tup L), some (.int q), some (.int j), some (.int l), none, none] = .nx [some (.tup L), some (.int q), some (.int j), some (.int l), some (.lst true L), none] := by
    simp [pc_b__law_replaced_3, pL, hl7]
  have e5 : pc_b__law_replaced_5 [some (.tup L), some (.int q), some (.int j), some (.int l), some (.lst true L), some M] = .nx [some (.tup L), some (.int q), some (.int j), some (.int l), some (.lst true (L.set jj it)), some (.lst false MF)] := by
    simp [pc_b__law_replaced_5, frzAt, cM, fM, h1, hm, m0, m0', hr, h2, pi, onL, lL, hk]
  show SR.out (b__law_replaced _) = _
  rw [pc_b__law_replaced]
  show SR.out (sq pc_b__law_replaced_1 _ [some (.tup L), some (.int q), none, none, none, none]) = _
  rw [sq_nx e1, sq_nx e2, sq_nx e3, sq_nx (h5 _ _ _ _ _ _), sq_nx e5]
  simp [pc_b__law_replaced_6, pS]

end
set_option maxRecDepth 100000
set_option maxHeartbeats 4000000
open PySem PySem.Spec PyProof.Rows L2 Dv
noncomputable section
theorem okN_menu : ∀ it ∈ [D.tup [.int 256], .tup [.int (-1)], .lst false [.int 97], st "a", .tup [.bl true], .tup []], okN it := by
  intro it h
  simp only [List.mem_cons, List.not_mem_nil, or_false] at h
  rcases h with rfl | rfl | rfl | rfl | rfl | rfl <;> refine ⟨rfl, fun xs e => ?_⟩ <;> cases e <;> refine ⟨fun x hx => ?_, by simp⟩ <;> first | (rw [List.mem_singleton.mp hx]; rfl) | simp at hx
theorem okA_menu : ∀ it ∈ [D.tup [st "script", st "link"], .tup [st "run"], .lst false [st "open"], .tup [.int 1], .tup []], sim it = true ∧ ∀ xs, it = .tup xs → (∀ x ∈ xs, sim x = true) ∧ xs.length ≤ 1000 := by
  intro it h
  simp only [List.mem_cons, List.not_mem_nil, or_false] at h
  rcases h with rfl | rfl | rfl | rfl | rfl <;> refine ⟨rfl, fun xs e => ?_⟩ <;> cases e <;> refine ⟨fun x hx => ?_, by simp⟩ <;> simp only [List.mem_cons, List.not_mem_nil, or_false] at hx
  · rcases hx with rfl | rfl <;> rfl
  · rw [hx]; rfl
  · rw [hx]; rfl
theorem okK_w (ws : List Str) (h : (∀ s ∈ ws, KS.any (· == s) = true) ∧ ws.length ≤ 1000 ∧ tagP ws = tagL ws) : okK (.tup (dStrs ws)) :=
  ⟨dStrs_pure _, fun xs e => by cases e; exact ⟨fun x hx => by obtain ⟨s, _, rfl⟩ := List.mem_map.mp hx; rfl, by rw [dStrs_len]; exact h.2.1⟩, .inr ⟨ws, rfl, h.1, h.2.1, h.2.2⟩⟩
theorem okK_menu : ∀ it ∈ [D.tup [st "crate", st "folio"], .tup [st "still", st "film"], .tup [st "folio", st "folio"], .tup [st "mail"], .lst false [st "still"], .tup [st "film", st "crate"], .tup []], okK it := by
  intro it h
  simp only [List.mem_cons, List.not_mem_nil, or_false] at h
  rcases h with rfl | rfl | rfl | rfl | rfl | rfl | rfl
  · exact okK_w [Str.ofString "crate", Str.ofString "folio"] (by decide +kernel)
  · exact okK_w [Str.ofString "still", Str.ofString "film"] (by decide +kernel)
  · exact okK_w [Str.ofString "folio", Str.ofString "folio"] (by decide +kernel)
  · exact ⟨rfl, fun xs e => by cases e; exact ⟨fun x hx => by rw [List.mem_singleton.mp hx]; rfl, by simp⟩, .inl (by show [st "mail"].all (isW KS) = false; decide +kernel)⟩
  · exact ⟨rfl, (fun xs e => by cases e), .inl rfl⟩
  · exact okK_w [Str.ofString "film", Str.ofString "crate"] (by decide +kernel)
  · exact okK_w [] (by decide +kernel)
theorem sim_menu1 : ∀ it ∈ [D.int (-1), .int 2147483648, .bl true, st "1", .int 0], sim it = true := by
  intro it h
  simp only [List.mem_cons, List.not_mem_nil, or_false] at h
  rcases h with rfl | rfl | rfl | rfl | rfl <;> rfl
theorem sim_menu2 : ∀ it ∈ [st "folio", st "crate", st "", st "still", st "mail", .non], sim it = true := by
  intro it h
  simp only [List.mem_cons, List.not_mem_nil, or_false] at h
  rcases h with rfl | rfl | rfl | rfl | rfl | rfl <;> rfl
theorem sim_menu4 : ∀ it ∈ [D.int 9, .int (-1), .int 8, .bl false, .non], sim it = true := by
  intro it h
  simp only [List.mem_cons, List.not_mem_nil, or_false] at h
  rcases h with rfl | rfl | rfl | rfl | rfl <;> rfl
theorem sim_menu6 : ∀ it ∈ [D.int 5, .int (-1), .int 4, .bl true], sim it = true := by
  intro it h
  simp only [List.mem_cons, List.not_mem_nil, or_false] at h
  rcases h with rfl | rfl | rfl | rfl <;> rfl
theorem pick (ms : List D) (l : Nat) (h : 0 < ms.length) : ∃ it ∈ ms, ixD ms (((l : Nat) : Int) % (ms.length : Int)) = some it := by
  have hr : l % ms.length < ms.length := Nat.mod_lt _ h
  refine ⟨ms[l % ms.length], List.getElem_mem hr, ?_⟩
  rw [← Int.natCast_emod, ixD_nat, List.getElem?_eq_getElem hr]
theorem m_repl {n s k κ p a dp : D} (h : Ok7 n s k κ p a dp) (q : Nat) : ∃ n' s' k' κ' p' a' dp', d__law_replaced [.tup [n, s, k, κ, p, a, dp], .int (q : Int)] = .ok (.tup [n', s', k', κ', p', a', dp']) ∧ Ok7 n' s' k' κ' p' a' dp' := by
  have pn := sim_pure n h.n.1
  have ps := sim_pure s h.s
  have pk := sim_pure k h.k
  have pκ := sim_pure κ h.κ.1
  have pp := sim_pure p h.p
  have pa := sim_pure a h.a.1
  have pd := sim_pure dp h.d
  have hp : D.pureL [n, s, k, κ, p, a, dp] = true := by simp [pn, ps, pk, pκ, pp, pa, pd]
  have go : ∀ (jj : Nat) (ms : List D) (it : D), jj < 7 → (q : Int) % 7 = (jj : Int) → ixD (MN false) (jj : Int) = some (.lst false ms) → 0 < ms.length → ixD ms (((q / 7 : Nat) : Int) % (ms.length : Int)) = some it → sim it = true → d__law_replaced [.tup [n, s, k, κ, p, a, dp], .int (q : Int)] = .ok (.tup ([n, s, k, κ, p, a, dp].set jj it)) := fun jj ms it hj e1 e2 e3 e4 e5 => by
    have pi := sim_pure it e5
    refine rp_core _ ms q jj ((q / 7 : Nat) : Int) _ _ jj _ _ it hp rfl e1 (by omega) r5 MN_cold MN_frz e2 rfl (by omega) rfl e4 pi (ixN_lt hj) ?_
    have : jj = 0 ∨ jj = 1 ∨ jj = 2 ∨ jj = 3 ∨ jj = 4 ∨ jj = 5 ∨ jj = 6 := by omega
    rcases this with rfl | rfl | rfl | rfl | rfl | rfl | rfl <;> simp [pn, ps, pk, pκ, pp, pa, pd, pi]
  have cs : (q : Int) % 7 = 0 ∨ (q : Int) % 7 = 1 ∨ (q : Int) % 7 = 2 ∨ (q : Int) % 7 = 3 ∨ (q : Int) % 7 = 4 ∨ (q : Int) % 7 = 5 ∨ (q : Int) % 7 = 6 := by omega
  rcases cs with c | c | c | c | c | c | c
  · obtain ⟨it, hm, e⟩ := pick [D.tup [.int 256], .tup [.int (-1)], .lst false [.int 97], st "a", .tup [.bl true], .tup []] (q / 7) (by simp)
    exact ⟨_, _, _, _, _, _, _, go 0 _ it (by omega) c rfl (by simp) e (okN_menu it hm).1, ⟨okN_menu it hm, h.s, h.k, h.κ, h.p, h.a, h.d⟩⟩
  · obtain ⟨it, hm, e⟩ := pick [D.int (-1), .int 2147483648, .bl true, st "1", .int 0] (q / 7) (by simp)
    exact ⟨_, _, _, _, _, _, _, go 1 _ it (by omega) c rfl (by simp) e (sim_menu1 it hm), ⟨h.n, sim_menu1 it hm, h.k, h.κ, h.p, h.a, h.d⟩⟩
  · obtain ⟨it, hm, e⟩ := pick [st "folio", st "crate", st "", st "still", st "mail", .non] (q / 7) (by simp)
    exact ⟨_, _, _, _, _, _, _, go 2 _ it (by omega) c rfl (by simp) e (sim_menu2 it hm), ⟨h.n, h.s, sim_menu2 it hm, h.κ, h.p, h.a, h.d⟩⟩
  · obtain ⟨it, hm, e⟩ := pick [D.tup [st "crate", st "folio"], .tup [st "still", st "film"], .tup [st "folio", st "folio"], .tup [st "mail"], .lst false [st "still"], .tup [st "film", st "crate"], .tup []] (q / 7) (by simp)
    exact ⟨_, _, _, _, _, _, _, go 3 _ it (by omega) c rfl (by simp) e (okK_menu it hm).1, ⟨h.n, h.s, h.k, okK_menu it hm, h.p, h.a, h.d⟩⟩
  · obtain ⟨it, hm, e⟩ := pick [D.int 9, .int (-1), .int 8, .bl false, .non] (q / 7) (by simp)
    exact ⟨_, _, _, _, _, _, _, go 4 _ it (by omega) c rfl (by simp) e (sim_menu4 it hm), ⟨h.n, h.s, h.k, h.κ, sim_menu4 it hm, h.a, h.d⟩⟩
  · obtain ⟨it, hm, e⟩ := pick [D.tup [st "script", st "link"], .tup [st "run"], .lst false [st "open"], .tup [.int 1], .tup []] (q / 7) (by simp)
    exact ⟨_, _, _, _, _, _, _, go 5 _ it (by omega) c rfl (by simp) e (okA_menu it hm).1, ⟨h.n, h.s, h.k, h.κ, h.p, okA_menu it hm, h.d⟩⟩
  · obtain ⟨it, hm, e⟩ := pick [D.int 5, .int (-1), .int 4, .bl true] (q / 7) (by simp)
    exact ⟨_, _, _, _, _, _, _, go 6 _ it (by omega) c rfl (by simp) e (sim_menu6 it hm), ⟨h.n, h.s, h.k, h.κ, h.p, h.a, sim_menu6 it hm⟩⟩

end
set_option maxRecDepth 100000
set_option maxHeartbeats 4000000
open PySem PySem.Spec PyProof.Rows L2 Dv
noncomputable section
def pc_b_law_1 : Dv.Env → SR := sAsg 1 (eCall 2 d__law_facts (aV (eVar 0) (aO (eC (.int 0)) (aNil))))
def pc_b_law_2 : Dv.Env → SR := sIf (tOrF (eT (e2 gIsNot (eCall 1 d_is_sound (aV (eVar 1) (aNil))) (eC (.bl true)))) (tNotF (eT (eCall 1 d__law_due (aV (eVar 1) (aNil)))))) (sRet (eC (.bl false))) (sNil)
def pc_b_law_3 : Dv.Env → SR := sAsg 2 (eLc (iA rng1 (aV (eC (.int 3)) (aNil))) (gNm 5) (tYes) (eCall 2 d__law_replaced (aV (eVar 1) (aO (eB gAbs (aV (eCall 2 d__law_cell (aV (eVar 0) (aO (e2 gAdd (eC (.int 3)) (eVar 5)) (aNil)))) (aNil))) (aNil)))) [5])
def pc_b_law_4 : Dv.Env → SR := sApp 2 (eCall 2 d__law_replaced (aV (e2 gIx (eVar 2) (eC (.int 0))) (aO (eB gAbs (aV (eCall 2 d__law_cell (aV (eVar 0) (aO (eC (.int 6)) (aNil)))) (aNil))) (aNil))))
def pc_b_law_5 : Dv.Env → SR := sAsg 2 (e2 gAdd (eVar 2) (eFz (eLstM (mO (eB gList (aV (eVar 1) (aNil))) (mO (e2 gAdd (eVar 1) (eTup (aO (eC (.int 0)) (aNil)))) (mO (eSl (eVar 1) (oNo) (oPt (eC (.int 6)))) (mO (eC .non) (mO (eC (.str "facts")) (mO (eTupM (mNil)) (mNil))))))))))
def pc_b_law_6 : Dv.Env → SR := sFz 2 (sFor (iW (eVar 2)) (gNm 3) lp_law_1)
def pc_b_law_7 : Dv.Env → SR := sRet (eC (.bl true))
theorem pc_b_law : b_law = sq pc_b_law_1 (sq pc_b_law_2 (sq pc_b_law_3 (sq pc_b_law_4 (sq pc_b_law_5 (sq pc_b_law_6 (pc_b_law_7)))))) := rfl

theorem no_tup (v : D) (p : v.pure = true) (h : isiD "tuple" v = .ok (.bl false)) : d_is_sound [v] = .ok (.bl false) ∧ d__law_due [v] = .ok (.bl false) := by
  constructor
  · simp [d_is_sound, b_is_sound, fnD, h]
  · simp [d__law_due, b__law_due, fnD, h]
theorem no_len (xs : List D) (p : D.pureL xs = true) (h : xs.length ≠ 7) : d_is_sound [.tup xs] = .ok (.bl false) ∧ d__law_due [.tup xs] = .ok (.bl false) := by
  have h' : ¬ ((xs.length : Nat) : Int) = 7 := by omega
  constructor
  · simp [d_is_sound, b_is_sound, fnD, h, h']
  · simp [d__law_due, b__law_due, fnD, h, h']
/-- the program and the law say the same of v -/
def Same (v : D) : Prop := v.pure = true ∧ ∃ b, d_is_sound [v] = .ok (.bl b) ∧ d__law_due [v] = .ok (.bl b)
theorem lp_step (x0 x1 x2 x4 x5 : Option D) (v : D) (h : Same v) : ∃ z4, lp_law_1 [x0, x1, x2, some v, x4, x5] = .nx [x0, x1, x2, some v, z4, x5] := by
  obtain ⟨p, b, h1, h2⟩ := h
  refine ⟨some (.bl b), ?_⟩
  cases b <;> simp [lp_law_1, callF, p, h1, h2]
theorem lp_loop (x0 x1 x2 x5 : Option D) : ∀ (vs : List D) (x3 x4 : Option D), (∀ v ∈ vs, Same v) → ∃ z3 z4, forL (gNm 3) lp_law_1 vs [x0, x1, x2, x3, x4, x5] = .nx [x0, x1, x2, z3, z4, x5]
  | [], x3, x4, _ => ⟨x3, x4, rfl⟩
  | v :: vs, x3, x4, h => by
    obtain ⟨y4, e⟩ := lp_step x0 x1 x2 x4 x5 v (h v List.mem_cons_self)
    obtain ⟨z3, z4, e2⟩ := lp_loop x0 x1 x2 x5 vs (some v) y4 fun a m => h a (List.mem_cons_of_mem _ m)
    exact ⟨z3, z4, forL_nx rfl e e2⟩
theorem for6 (x0 x1 : Option D) (VS : List D) (z3 z4 : Option D) (pV : D.pureL VS = true) (hl : forL (gNm 3) lp_law_1 VS [x0, x1, some (.lst false VS), none, none, none] = .nx [x0, x1, some (.lst false VS), z3, z4, none]) : pc_b_law_6 [x0, x1, some (.lst true VS), none, none, none] = .nx [x0, x1, some (.lst false VS), z3, z4, none] := by
  have cV := D.pureL_cold VS pV
  have fV := D.pureL_frzL VS pV
  simp [pc_b_law_6, frzAt, pV, cV, fV, hl]
theorem law_core (S : List Int) (L : List D) (v0 v1 v2 v3 : D) (c3 c4 c5 c6 q3 q4 q5 q6 : Int) (z3 z4 : Option D) (pL : D.pureL L = true) (lL : L.length ≤ 10) (p0 : v0.pure = true) (p1 : v1.pure = true) (p2 : v2.pure = true) (p3 : v3.pure = true) (h1 : d__law_facts [.scr (dInts S), .int 0] = .ok (.tup L)) (pT : D.pureL (L.take 6) = true) (pA : D.pureL (L ++ [.int 0]) = true)
    (s1 : d_is_sound [.tup L] = .ok (.bl true)) (s2 : d__law_due [.tup L] = .ok (.bl true)) (g3 : d__law_cell [.scr (dInts S), .int 3] = .ok (.int c3)) (g4 : d__law_cell [.scr (dInts S), .int 4] = .ok (.int c4)) (g5 : d__law_cell [.scr (dInts S), .int 5] = .ok (.int c5)) (g6 : d__law_cell [.scr (dInts S), .int 6] = .ok (.int c6))
    (a3 : (if c3 < 0 then -c3 else c3) = q3) (a4 : (if c4 < 0 then -c4 else c4) = q4) (a5 : (if c5 < 0 then -c5 else c5) = q5) (a6 : (if c6 < 0 then -c6 else c6) = q6) (r3 : d__law_replaced [.tup L, .int q3] = .ok v0) (r4 : d__law_replaced [.tup L, .int q4] = .ok v1) (r5 : d__law_replaced [.tup L, .int q5] = .ok v2) (r6 : d__law_replaced [v0, .int q6] = .ok v3)
    (hl : forL (gNm 3) lp_law_1 [v0, v1, v2, v3, .lst false L, .tup (L ++ [.int 0]), .tup (L.take 6), .non, .str (Str.ofString "facts"), .tup []] [some (.scr (dInts S)), some (.tup L), some (.lst false [v0, v1, v2, v3, .lst false L, .tup (L ++ [.int 0]), .tup (L.take 6), .non, .str (Str.ofString "facts"), .tup []]), none, none, none] = .nx [some (.scr (dInts S)), some (.tup L), some (.lst false [v0, v1, v2, v3, .lst false L, .tup (L ++ [.int 0]), .tup (L.take 6), .non, .str (Str.ofString "facts"), .tup []]), z3, z4, none]) :
    d_law [.scr (dInts S)] = .ok (.bl true) := by
  have cL := D.pureL_cold L pL
  have fL := D.pureL_frzL L pL
  have l1 : L.length ≤ 16777216 := by omega
  have l2 : L.length + 1 ≤ 16777216 := by omega
  have ct : Dv.cutD L none (some 6) = L.take 6 := cut_to L 6
  have cT := D.pureL_cold _ pT
  have fT := D.pureL_frzL _ pT
  have cA := D.pureL_cold _ pA
  have fA := D.pureL_frzL _ pA
  have e1 : pc_b_law_1 [some (.scr (dInts S)), none, none, none, none, none] = .nx [some (.scr (dInts S)), some (.tup L), none, none, none, none] := by
    simp [pc_b_law_1, callF, h1]
  have e2 : pc_b_law_2 [some (.scr (dInts S)), some (.tup L), none, none, none, none] = .nx [some (.scr (dInts S)), some (.tup L), none, none, none, none] := by
    simp [pc_b_law_2, callF, pL, s1, s2]
  have er : rngL 0 3 = [.int 0, .int 1, .int 2] := rfl
  have e3 : pc_b_law_3 [some (.scr (dInts S)), some (.tup L), none, none, none, none] = .nx [some (.scr (dInts S)), some (.tup L), some (.lst true [v0, v1, v2]), none, none, none] := by
    simp [pc_b_law_3, er, lcL_cons, lcL_nil, callF, pL, g3, g4, g5, a3, a4, a5, r3, r4, r5]
  have e4 : pc_b_law_4 [some (.scr (dInts S)), some (.tup L), some (.lst true [v0, v1, v2]), none, none, none] = .nx [some (.scr (dInts S)), some (.tup L), some (.lst true [v0, v1, v2, v3]), none, none, none] := by
    simp [pc_b_law_4, callF, ix0, g6, a6, r6, p0, onL]
  have e5 : pc_b_law_5 [some (.scr (dInts S)), some (.tup L), some (.lst true [v0, v1, v2, v3]), none, none, none] = .nx [some (.scr (dInts S)), some (.tup L), some (.lst true [v0, v1, v2, v3, .lst false L, .tup (L ++ [.int 0]), .tup (L.take 6), .non, .str (Str.ofString "facts"), .tup []]), none, none, none] := by
    simp [pc_b_law_5, p0, p1, p2, p3, pL, cL, fL, l1, l2, ct, cT, fT, cA, fA, pT, pA]
  have pV : D.pureL [v0, v1, v2, v3, .lst false L, .tup (L ++ [.int 0]), .tup (L.take 6), .non, .str (Str.ofString "facts"), .tup []] = true := by
    simp [p0, p1, p2, p3, pL, pT, pA]
  have e6 := for6 (some (.scr (dInts S))) (some (.tup L)) _ z3 z4 pV hl
  show SR.out (b_law _) = _
  rw [pc_b_law]
  show SR.out (sq pc_b_law_1 _ [some (.scr (dInts S)), none, none, none, none, none]) = _
  rw [sq_nx e1, sq_nx e2, sq_nx e3, sq_nx e4, sq_nx e5, sq_nx e6]
  simp [pc_b_law_7]
theorem law_true (ns : List Int) (hl : ns.length ≤ 63) : d_law [.scr (dInts ns)] = .ok (.bl true) := by
  obtain ⟨n, s, k, κ, p, a, dp, h1, ok, s1, s2⟩ := m_facts ns
  have nn : ∀ c : Int, ∃ q : Nat, (if c < 0 then -c else c) = (q : Int) := fun c => Int.eq_ofNat_of_zero_le (by split <;> omega)
  obtain ⟨q3, a3⟩ := nn (cell ns 3)
  obtain ⟨q4, a4⟩ := nn (cell ns 4)
  obtain ⟨q5, a5⟩ := nn (cell ns 5)
  obtain ⟨q6, a6⟩ := nn (cell ns 6)
  obtain ⟨n0, t0, k0, κ0, g0, u0, d0, r3, ok0⟩ := m_repl ok q3
  obtain ⟨n1, t1, k1, κ1, g1, u1, d1, r4, ok1⟩ := m_repl ok q4
  obtain ⟨n2, t2, k2, κ2, g2, u2, d2, r5, ok2⟩ := m_repl ok q5
  obtain ⟨n3, t3, k3, κ3, g3, u3, d3, r6, ok3⟩ := m_repl ok0 q6
  have sm : ∀ {n s k κ p a dp : D}, Ok7 n s k κ p a dp → Same (.tup [n, s, k, κ, p, a, dp]) := fun {n s k κ p a dp} h => by
    obtain ⟨b, e1, e2, _⟩ := both7 h
    have := sim_pure n h.n.1
    have := sim_pure s h.s
    have := sim_pure k h.k
    have := sim_pure κ h.κ.1
    have := sim_pure p h.p
    have := sim_pure a h.a.1
    have := sim_pure dp h.d
    refine ⟨?_, _, e1, e2⟩
    show D.pureL _ = true
    simp [*]
  have pL : D.pureL [n, s, k, κ, p, a, dp] = true := (sm ok).1
  have pn := sim_pure n ok.n.1
  have ps := sim_pure s ok.s
  have pk := sim_pure k ok.k
  have pκ := sim_pure κ ok.κ.1
  have pp := sim_pure p ok.p
  have pa := sim_pure a ok.a.1
  have pd := sim_pure dp ok.d
  have pT : D.pureL ([n, s, k, κ, p, a, dp].take 6) = true := by simp [pn, ps, pk, pκ, pp, pa]
  have pA : D.pureL ([n, s, k, κ, p, a, dp] ++ [.int 0]) = true := by simp [pn, ps, pk, pκ, pp, pa, pd]
  obtain ⟨z3, z4, hL⟩ := lp_loop (some (.scr (dInts ns))) (some (.tup [n, s, k, κ, p, a, dp])) (some (.lst false [.tup [n0, t0, k0, κ0, g0, u0, d0], .tup [n1, t1, k1, κ1, g1, u1, d1], .tup [n2, t2, k2, κ2, g2, u2, d2], .tup [n3, t3, k3, κ3, g3, u3, d3], .lst false [n, s, k, κ, p, a, dp], .tup ([n, s, k, κ, p, a, dp] ++ [.int 0]), .tup ([n, s, k, κ, p, a, dp].take 6), .non, .str (Str.ofString "facts"), .tup []])) none [.tup [n0, t0, k0, κ0, g0, u0, d0], .tup [n1, t1, k1, κ1, g1, u1, d1], .tup [n2, t2, k2, κ2, g2, u2, d2], .tup [n3, t3, k3, κ3, g3, u3, d3], .lst false [n, s, k, κ, p, a, dp], .tup ([n, s, k, κ, p, a, dp] ++ [.int 0]), .tup ([n, s, k, κ, p, a, dp].take 6), .non, .str (Str.ofString "facts"), .tup []] none none (by
    intro v hv
    simp only [List.mem_cons, List.not_mem_nil, or_false] at hv
    rcases hv with rfl | rfl | rfl | rfl | rfl | rfl | rfl | rfl | rfl | rfl
    · exact sm ok0
    · exact sm ok1
    · exact sm ok2
    · exact sm ok3
    · exact ⟨pL, false, no_tup _ pL (isi_tuple_lst ..)⟩
    · exact ⟨pA, false, no_len _ pA (by simp)⟩
    · exact ⟨pT, false, no_len _ pT (by simp)⟩
    · exact ⟨rfl, false, no_tup _ rfl isi_tuple_non⟩
    · exact ⟨rfl, false, no_tup _ rfl (isi_tuple_str ..)⟩
    · exact ⟨rfl, false, no_len _ rfl (by simp)⟩)
  exact law_core ns _ _ _ _ _ _ _ _ _ _ _ _ _ z3 z4 pL (by simp) (sm ok0).1 (sm ok1).1 (sm ok2).1 (sm ok3).1 h1 pT pA s1 s2 (m_cell ns 3) (m_cell ns 4) (m_cell ns 5) (m_cell ns 6) a3 a4 a5 a6 r3 r4 r5 r6 hL

end
theorem end_ok {K : PySem.W.Frag} {P : Program} {w : World} {mg : Str → Option Value} {base : Heap} {A : Ad} (T : Txt K mg A) : FnOk P w K mg base (L2.CX P w) 4 A.a_law A.fd_law ["_law_script"] (spLaw K) := end_of (kx := kx K) (ok_law T) rfl law_true
theorem all_mk {l : PySem.W.OpenLaw} {w : World} {K : PySem.W.Frag} {h : Heap} {mg : Str → Option Value} {fa f0 f1 f2 f3 f4 f5 f6 f7 f8 f9 f10 f11 f12 f13 f14 f15 f16  : Addr} {od0 an0 od1 an1 od2 an2 od3 an3 od4 an4 od5 an5 od6 an6 od7 an7 od8 an8 od9 an9 od10 an10 od11 an11 od12 an12 od13 an13 od14 an14 od15 an15 od16 an16 : Option Addr} {sl0 sl1 sl2 sl3 sl4 sl5 sl6 sl7 sl8 sl9 sl10 sl11 sl12 sl13 sl14 sl15 sl16 : Array (Option Value)} {oc0 kV0 dc0 pm0 cd0 ct0 oc1 kV1 dc1 pm1 cd1 ct1 oc2 kV2 dc2 pm2 cd2 ct2 oc3 kV3 dc3 pm3 cd3 ct3 oc4 kV4 dc4 pm4 cd4 ct4 oc5 kV5 dc5 pm5 cd5 ct5 oc6 kV6 dc6 pm6 cd6 ct6 oc7 kV7 dc7 pm7 cd7 ct7 oc8 kV8 dc8 pm8 cd8 ct8 oc9 kV9 dc9 pm9 cd9 ct9 oc10 kV10 dc10 pm10 cd10 ct10 oc11 kV11 dc11 pm11 cd11 ct11 oc12 kV12 dc12 pm12 cd12 ct12 oc13 kV13 dc13 pm13 cd13 ct13 oc14 kV14 dc14 pm14 cd14 ct14 oc15 kV15 dc15 pm15 cd15 ct15 oc16 kV16 dc16 pm16 cd16 ct16 : Value} {t1_ACTS : Tok} {t2_ACTS : Tok} {t3_ACTS : Tok} {t4_ACTS : Tok} {t5_ACTS : Tok} {t6_ACTS : Tok} {q0_ACTS : Addr} {n0_ACTS : Nat} {sl0_ACTS : Array (Option Value)} {od0_ACTS : Option Addr} {t1_KINDS : Tok} {t2_KINDS : Tok} {t3_KINDS : Tok} {t4_KINDS : Tok} {t5_KINDS : Tok} {t6_KINDS : Tok} {q0_KINDS : Addr} {n0_KINDS : Nat} {sl0_KINDS : Array (Option Value)} {t_MOST_DEPTH : Tok} {t_MOST_PAGES : Tok} {t_MOST_SIZE : Tok} {t_SINGLE : Tok} (X : K.In h) (G : h.Ns mainGlobals mg) (hfa : mg "law" = some (.ref fa)) (a0 : PySem.W.nsIn K mainGlobals "_law_cell" = some (some (.ref f0))) (l0 : K.lookup f0 = some ⟨oc0, od0, .func (PySem.W.fnOf "_law_cell" "_law_cell" (defArgs s__law_cell) (defBody s__law_cell) (defScope s__law_cell) .none kV0 dc0 pm0 an0 cd0 ct0), sl0⟩) (c0 : PySem.W.codeIn K cd0 "_law_cell" = true) (k0 : PySem.W.keepIn K (.ref f0) = true) (a1 : PySem.W.nsIn K mainGlobals "_law_kinds" = some (some (.ref f1))) (l1 : K.lookup f1 = some ⟨oc1, od1, .func (PySem.W.fnOf "_law_kinds" "_law_kinds" (defArgs s__law_kinds) (defBody s__law_kinds) (defScope s__law_kinds) .none kV1 dc1 pm1 an1 cd1 ct1), sl1⟩) (c1 : PySem.W.codeIn K cd1 "_law_kinds" = true) (k1 : PySem.W.keepIn K (.ref f1) = true) (a2 : PySem.W.nsIn K mainGlobals "_law_row" = some (some (.ref f2))) (l2 : K.lookup f2 = some ⟨oc2, od2, .func (PySem.W.fnOf "_law_row" "_law_row" (defArgs s__law_row) (defBody s__law_row) (defScope s__law_row) .none kV2 dc2 pm2 an2 cd2 ct2), sl2⟩) (c2 : PySem.W.codeIn K cd2 "_law_row" = true) (k2 : PySem.W.keepIn K (.ref f2) = true) (a3 : PySem.W.nsIn K mainGlobals "_law_acts" = some (some (.ref f3))) (l3 : K.lookup f3 = some ⟨oc3, od3, .func (PySem.W.fnOf "_law_acts" "_law_acts" (defArgs s__law_acts) (defBody s__law_acts) (defScope s__law_acts) .none kV3 dc3 pm3 an3 cd3 ct3), sl3⟩) (c3 : PySem.W.codeIn K cd3 "_law_acts" = true) (k3 : PySem.W.keepIn K (.ref f3) = true) (a4 : PySem.W.nsIn K mainGlobals "_law_facts" = some (some (.ref f4))) (l4 : K.lookup f4 = some ⟨oc4, od4, .func (PySem.W.fnOf "_law_facts" "_law_facts" (defArgs s__law_facts) (defBody s__law_facts) (defScope s__law_facts) .none kV4 dc4 pm4 an4 cd4 ct4), sl4⟩) (c4 : PySem.W.codeIn K cd4 "_law_facts" = true) (k4 : PySem.W.keepIn K (.ref f4) = true) (a5 : PySem.W.nsIn K mainGlobals "_law_replaced" = some (some (.ref f5))) (l5 : K.lookup f5 = some ⟨oc5, od5, .func (PySem.W.fnOf "_law_replaced" "_law_replaced" (defArgs s__law_replaced) (defBody s__law_replaced) (defScope s__law_replaced) .none kV5 dc5 pm5 an5 cd5 ct5), sl5⟩) (c5 : PySem.W.codeIn K cd5 "_law_replaced" = true) (k5 : PySem.W.keepIn K (.ref f5) = true) (a6 : PySem.W.nsIn K mainGlobals "is_integer" = some (some (.ref f6))) (l6 : K.lookup f6 = some ⟨oc6, od6, .func (PySem.W.fnOf "is_integer" "is_integer" (defArgs s_is_integer) (defBody s_is_integer) (defScope s_is_integer) .none kV6 dc6 pm6 an6 cd6 ct6), sl6⟩) (c6 : PySem.W.codeIn K cd6 "is_integer" = true) (k6 : PySem.W.keepIn K (.ref f6) = true) (a7 : PySem.W.nsIn K mainGlobals "is_between" = some (some (.ref f7))) (l7 : K.lookup f7 = some ⟨oc7, od7, .func (PySem.W.fnOf "is_between" "is_between" (defArgs s_is_between) (defBody s_is_between) (defScope s_is_between) .none kV7 dc7 pm7 an7 cd7 ct7), sl7⟩) (c7 : PySem.W.codeIn K cd7 "is_between" = true) (k7 : PySem.W.keepIn K (.ref f7) = true) (a8 : PySem.W.nsIn K mainGlobals "are_words" = some (some (.ref f8))) (l8 : K.lookup f8 = some ⟨oc8, od8, .func (PySem.W.fnOf "are_words" "are_words" (defArgs s_are_words) (defBody s_are_words) (defScope s_are_words) .none kV8 dc8 pm8 an8 cd8 ct8), sl8⟩) (c8 : PySem.W.codeIn K cd8 "are_words" = true) (k8 : PySem.W.keepIn K (.ref f8) = true) (a9 : PySem.W.nsIn K mainGlobals "is_kind" = some (some (.ref f9))) (l9 : K.lookup f9 = some ⟨oc9, od9, .func (PySem.W.fnOf "is_kind" "is_kind" (defArgs s_is_kind) (defBody s_is_kind) (defScope s_is_kind) .none kV9 dc9 pm9 an9 cd9 ct9), sl9⟩) (c9 : PySem.W.codeIn K cd9 "is_kind" = true) (k9 : PySem.W.keepIn K (.ref f9) = true) (a10 : PySem.W.nsIn K mainGlobals "is_sound" = some (some (.ref f10))) (l10 : K.lookup f10 = some ⟨oc10, od10, .func (PySem.W.fnOf "is_sound" "is_sound" (defArgs s_is_sound) (defBody s_is_sound) (defScope s_is_sound) .none kV10 dc10 pm10 an10 cd10 ct10), sl10⟩) (c10 : PySem.W.codeIn K cd10 "is_sound" = true) (k10 : PySem.W.keepIn K (.ref f10) = true) (a11 : PySem.W.nsIn K mainGlobals "_law_words" = some (some (.ref f11))) (l11 : K.lookup f11 = some ⟨oc11, od11, .func (PySem.W.fnOf "_law_words" "_law_words" (defArgs s__law_words) (defBody s__law_words) (defScope s__law_words) .none kV11 dc11 pm11 an11 cd11 ct11), sl11⟩) (c11 : PySem.W.codeIn K cd11 "_law_words" = true) (k11 : PySem.W.keepIn K (.ref f11) = true) (a12 : PySem.W.nsIn K mainGlobals "_law_kind_fits" = some (some (.ref f12))) (l12 : K.lookup f12 = some ⟨oc12, od12, .func (PySem.W.fnOf "_law_kind_fits" "_law_kind_fits" (defArgs s__law_kind_fits) (defBody s__law_kind_fits) (defScope s__law_kind_fits) .none kV12 dc12 pm12 an12 cd12 ct12), sl12⟩) (c12 : PySem.W.codeIn K cd12 "_law_kind_fits" = true) (k12 : PySem.W.keepIn K (.ref f12) = true) (a13 : PySem.W.nsIn K mainGlobals "_law_is_integer" = some (some (.ref f13))) (l13 : K.lookup f13 = some ⟨oc13, od13, .func (PySem.W.fnOf "_law_is_integer" "_law_is_integer" (defArgs s__law_is_integer) (defBody s__law_is_integer) (defScope s__law_is_integer) .none kV13 dc13 pm13 an13 cd13 ct13), sl13⟩) (c13 : PySem.W.codeIn K cd13 "_law_is_integer" = true) (k13 : PySem.W.keepIn K (.ref f13) = true) (a14 : PySem.W.nsIn K mainGlobals "_law_number" = some (some (.ref f14))) (l14 : K.lookup f14 = some ⟨oc14, od14, .func (PySem.W.fnOf "_law_number" "_law_number" (defArgs s__law_number) (defBody s__law_number) (defScope s__law_number) .none kV14 dc14 pm14 an14 cd14 ct14), sl14⟩) (c14 : PySem.W.codeIn K cd14 "_law_number" = true) (k14 : PySem.W.keepIn K (.ref f14) = true) (a15 : PySem.W.nsIn K mainGlobals "_law_due" = some (some (.ref f15))) (l15 : K.lookup f15 = some ⟨oc15, od15, .func (PySem.W.fnOf "_law_due" "_law_due" (defArgs s__law_due) (defBody s__law_due) (defScope s__law_due) .none kV15 dc15 pm15 an15 cd15 ct15), sl15⟩) (c15 : PySem.W.codeIn K cd15 "_law_due" = true) (k15 : PySem.W.keepIn K (.ref f15) = true) (a16 : PySem.W.nsIn K mainGlobals "law" = some (some (.ref f16))) (l16 : K.lookup f16 = some ⟨oc16, od16, .func (PySem.W.fnOf "law" "law" (defArgs s_law) (defBody s_law) (defScope s_law) .none kV16 dc16 pm16 an16 cd16 ct16), sl16⟩) (c16 : PySem.W.codeIn K cd16 "law" = true) (k16 : PySem.W.keepIn K (.ref f16) = true) (z_abs : PySem.W.nsIn K mainGlobals "abs" = some none) (z_all : PySem.W.nsIn K mainGlobals "all" = some none) (z_bool : PySem.W.nsIn K mainGlobals "bool" = some none) (z_int : PySem.W.nsIn K mainGlobals "int" = some none) (z_isinstance : PySem.W.nsIn K mainGlobals "isinstance" = some none) (z_len : PySem.W.nsIn K mainGlobals "len" = some none) (z_list : PySem.W.nsIn K mainGlobals "list" = some none) (z_range : PySem.W.nsIn K mainGlobals "range" = some none) (z_sorted : PySem.W.nsIn K mainGlobals "sorted" = some none) (z_str : PySem.W.nsIn K mainGlobals "str" = some none) (z_tuple : PySem.W.nsIn K mainGlobals "tuple" = some none) (z_zip : PySem.W.nsIn K mainGlobals "zip" = some none) (g_ACTS : PySem.W.nsIn K mainGlobals "ACTS" = some (some (.ref q0_ACTS))) (g0_ACTS : K.lookup q0_ACTS = some ⟨.type "tuple", od0_ACTS, .seq #[.str "open" t1_ACTS, .str "file" t2_ACTS, .str "link" t3_ACTS, .str "form" t4_ACTS, .str "fetch" t5_ACTS, .str "script" t6_ACTS] n0_ACTS, sl0_ACTS⟩) (g_KINDS : PySem.W.nsIn K mainGlobals "KINDS" = some (some (.ref q0_KINDS))) (g0_KINDS : K.lookup q0_KINDS = some ⟨.type "tuple", none, .seq #[.str "still" t1_KINDS, .str "picture" t2_KINDS, .str "film" t3_KINDS, .str "sheet" t4_KINDS, .str "folio" t5_KINDS, .str "crate" t6_KINDS] n0_KINDS, sl0_KINDS⟩) (g_MOST_DEPTH : PySem.W.nsIn K mainGlobals "MOST_DEPTH" = some (some (.int 4 t_MOST_DEPTH))) (g_MOST_PAGES : PySem.W.nsIn K mainGlobals "MOST_PAGES" = some (some (.int 8 t_MOST_PAGES))) (g_MOST_SIZE : PySem.W.nsIn K mainGlobals "MOST_SIZE" = some (some (.int 2147483647 t_MOST_SIZE))) (g_SINGLE : PySem.W.nsIn K mainGlobals "SINGLE" = some (some (.int 4 t_SINGLE))) :
    ∃ fd : FuncData, (∀ (s : Shared) (v : Value), BindsTo s fd ⟨[v], []⟩ [("_law_script", v)]) ∧ ∀ base : Heap, K.In base → base.Ns mainGlobals mg → FnOk l.prog w K mg base (L2.CX l.prog w) 4 fa fd ["_law_script"] (spLaw K) := by
  have e := hfa.symm.trans (PySem.W.mg_of X G a16)
  cases e
  have F0 := fun_mk (st := s__law_cell) l0 c0 k0
  have B0 := F0.binds (ps := ["_law_script", "_law_k"]) fun _ _ _ _ _ _ us hl => match us, hl with | [_, _], _ => rfl
  have F1 := fun_mk (st := s__law_kinds) l1 c1 k1
  have B1 := F1.binds (ps := []) fun _ _ _ _ _ _ us hl => match us, hl with | [], _ => rfl
  have F2 := fun_mk (st := s__law_row) l2 c2 k2
  have B2 := F2.binds (ps := ["_law_cell_here", "_law_count"]) fun _ _ _ _ _ _ us hl => match us, hl with | [_, _], _ => rfl
  have F3 := fun_mk (st := s__law_acts) l3 c3 k3
  have B3 := F3.binds (ps := []) fun _ _ _ _ _ _ us hl => match us, hl with | [], _ => rfl
  have F4 := fun_mk (st := s__law_facts) l4 c4 k4
  have B4 := F4.binds (ps := ["_law_script", "_law_at"]) fun _ _ _ _ _ _ us hl => match us, hl with | [_, _], _ => rfl
  have F5 := fun_mk (st := s__law_replaced) l5 c5 k5
  have B5 := F5.binds (ps := ["_law_facts_here", "_law_cell_here"]) fun _ _ _ _ _ _ us hl => match us, hl with | [_, _], _ => rfl
  have F6 := fun_mk (st := s_is_integer) l6 c6 k6
  have B6 := F6.binds (ps := ["value"]) fun _ _ _ _ _ _ us hl => match us, hl with | [_], _ => rfl
  have F7 := fun_mk (st := s_is_between) l7 c7 k7
  have B7 := F7.binds (ps := ["value", "least", "most"]) fun _ _ _ _ _ _ us hl => match us, hl with | [_, _, _], _ => rfl
  have F8 := fun_mk (st := s_are_words) l8 c8 k8
  have B8 := F8.binds (ps := ["value", "words"]) fun _ _ _ _ _ _ us hl => match us, hl with | [_, _], _ => rfl
  have F9 := fun_mk (st := s_is_kind) l9 c9 k9
  have B9 := F9.binds (ps := ["kind", "kinds"]) fun _ _ _ _ _ _ us hl => match us, hl with | [_, _], _ => rfl
  have F10 := fun_mk (st := s_is_sound) l10 c10 k10
  have B10 := F10.binds (ps := ["value"]) fun _ _ _ _ _ _ us hl => match us, hl with | [_], _ => rfl
  have F11 := fun_mk (st := s__law_words) l11 c11 k11
  have B11 := F11.binds (ps := ["_law_value", "_law_words_here"]) fun _ _ _ _ _ _ us hl => match us, hl with | [_, _], _ => rfl
  have F12 := fun_mk (st := s__law_kind_fits) l12 c12 k12
  have B12 := F12.binds (ps := ["_law_kind", "_law_kinds_here"]) fun _ _ _ _ _ _ us hl => match us, hl with | [_, _], _ => rfl
  have F13 := fun_mk (st := s__law_is_integer) l13 c13 k13
  have B13 := F13.binds (ps := ["_law_actual"]) fun _ _ _ _ _ _ us hl => match us, hl with | [_], _ => rfl
  have F14 := fun_mk (st := s__law_number) l14 c14 k14
  have B14 := F14.binds (ps := ["_law_value", "_law_most"]) fun _ _ _ _ _ _ us hl => match us, hl with | [_, _], _ => rfl
  have F15 := fun_mk (st := s__law_due) l15 c15 k15
  have B15 := F15.binds (ps := ["_law_value"]) fun _ _ _ _ _ _ us hl => match us, hl with | [_], _ => rfl
  have F16 := fun_mk (st := s_law) l16 c16 k16
  have B16 := F16.binds (ps := ["_law_script"]) fun _ _ _ _ _ _ us hl => match us, hl with | [_], _ => rfl
  have T : Txt K mg ⟨f0, (PySem.W.fnOf "_law_cell" "_law_cell" (defArgs s__law_cell) (defBody s__law_cell) (defScope s__law_cell) .none kV0 dc0 pm0 an0 cd0 ct0), f1, (PySem.W.fnOf "_law_kinds" "_law_kinds" (defArgs s__law_kinds) (defBody s__law_kinds) (defScope s__law_kinds) .none kV1 dc1 pm1 an1 cd1 ct1), f2, (PySem.W.fnOf "_law_row" "_law_row" (defArgs s__law_row) (defBody s__law_row) (defScope s__law_row) .none kV2 dc2 pm2 an2 cd2 ct2), f3, (PySem.W.fnOf "_law_acts" "_law_acts" (defArgs s__law_acts) (defBody s__law_acts) (defScope s__law_acts) .none kV3 dc3 pm3 an3 cd3 ct3), f4, (PySem.W.fnOf "_law_facts" "_law_facts" (defArgs s__law_facts) (defBody s__law_facts) (defScope s__law_facts) .none kV4 dc4 pm4 an4 cd4 ct4), f5, (PySem.W.fnOf "_law_replaced" "_law_replaced" (defArgs s__law_replaced) (defBody s__law_replaced) (defScope s__law_replaced) .none kV5 dc5 pm5 an5 cd5 ct5), f6, (PySem.W.fnOf "is_integer" "is_integer" (defArgs s_is_integer) (defBody s_is_integer) (defScope s_is_integer) .none kV6 dc6 pm6 an6 cd6 ct6), f7, (PySem.W.fnOf "is_between" "is_between" (defArgs s_is_between) (defBody s_is_between) (defScope s_is_between) .none kV7 dc7 pm7 an7 cd7 ct7), f8, (PySem.W.fnOf "are_words" "are_words" (defArgs s_are_words) (defBody s_are_words) (defScope s_are_words) .none kV8 dc8 pm8 an8 cd8 ct8), f9, (PySem.W.fnOf "is_kind" "is_kind" (defArgs s_is_kind) (defBody s_is_kind) (defScope s_is_kind) .none kV9 dc9 pm9 an9 cd9 ct9), f10, (PySem.W.fnOf "is_sound" "is_sound" (defArgs s_is_sound) (defBody s_is_sound) (defScope s_is_sound) .none kV10 dc10 pm10 an10 cd10 ct10), f11, (PySem.W.fnOf "_law_words" "_law_words" (defArgs s__law_words) (defBody s__law_words) (defScope s__law_words) .none kV11 dc11 pm11 an11 cd11 ct11), f12, (PySem.W.fnOf "_law_kind_fits" "_law_kind_fits" (defArgs s__law_kind_fits) (defBody s__law_kind_fits) (defScope s__law_kind_fits) .none kV12 dc12 pm12 an12 cd12 ct12), f13, (PySem.W.fnOf "_law_is_integer" "_law_is_integer" (defArgs s__law_is_integer) (defBody s__law_is_integer) (defScope s__law_is_integer) .none kV13 dc13 pm13 an13 cd13 ct13), f14, (PySem.W.fnOf "_law_number" "_law_number" (defArgs s__law_number) (defBody s__law_number) (defScope s__law_number) .none kV14 dc14 pm14 an14 cd14 ct14), f15, (PySem.W.fnOf "_law_due" "_law_due" (defArgs s__law_due) (defBody s__law_due) (defScope s__law_due) .none kV15 dc15 pm15 an15 cd15 ct15), fa, (PySem.W.fnOf "law" "law" (defArgs s_law) (defBody s_law) (defScope s_law) .none kV16 dc16 pm16 an16 cd16 ct16)⟩ := {
    f__law_cell := F0, m__law_cell := PySem.W.mg_of X G a0, i__law_cell := B0,
    f__law_kinds := F1, m__law_kinds := PySem.W.mg_of X G a1, i__law_kinds := B1,
    f__law_row := F2, m__law_row := PySem.W.mg_of X G a2, i__law_row := B2,
    f__law_acts := F3, m__law_acts := PySem.W.mg_of X G a3, i__law_acts := B3,
    f__law_facts := F4, m__law_facts := PySem.W.mg_of X G a4, i__law_facts := B4,
    f__law_replaced := F5, m__law_replaced := PySem.W.mg_of X G a5, i__law_replaced := B5,
    f_is_integer := F6, m_is_integer := PySem.W.mg_of X G a6, i_is_integer := B6,
    f_is_between := F7, m_is_between := PySem.W.mg_of X G a7, i_is_between := B7,
    f_are_words := F8, m_are_words := PySem.W.mg_of X G a8, i_are_words := B8,
    f_is_kind := F9, m_is_kind := PySem.W.mg_of X G a9, i_is_kind := B9,
    f_is_sound := F10, m_is_sound := PySem.W.mg_of X G a10, i_is_sound := B10,
    f__law_words := F11, m__law_words := PySem.W.mg_of X G a11, i__law_words := B11,
    f__law_kind_fits := F12, m__law_kind_fits := PySem.W.mg_of X G a12, i__law_kind_fits := B12,
    f__law_is_integer := F13, m__law_is_integer := PySem.W.mg_of X G a13, i__law_is_integer := B13,
    f__law_number := F14, m__law_number := PySem.W.mg_of X G a14, i__law_number := B14,
    f__law_due := F15, m__law_due := PySem.W.mg_of X G a15, i__law_due := B15,
    f_law := F16, m_law := PySem.W.mg_of X G a16, i_law := B16,
    z_abs := PySem.W.mg_none_of X G z_abs,
    z_all := PySem.W.mg_none_of X G z_all,
    z_bool := PySem.W.mg_none_of X G z_bool,
    z_int := PySem.W.mg_none_of X G z_int,
    z_isinstance := PySem.W.mg_none_of X G z_isinstance,
    z_len := PySem.W.mg_none_of X G z_len,
    z_list := PySem.W.mg_none_of X G z_list,
    z_range := PySem.W.mg_none_of X G z_range,
    z_sorted := PySem.W.mg_none_of X G z_sorted,
    z_str := PySem.W.mg_none_of X G z_str,
    z_tuple := PySem.W.mg_none_of X G z_tuple,
    z_zip := PySem.W.mg_none_of X G z_zip,
    g_ACTS := glob_rv (PySem.W.mg_of X G g_ACTS) (rv_tup g0_ACTS (by simp) (rvL_cons (rv_str) (rvL_cons (rv_str) (rvL_cons (rv_str) (rvL_cons (rv_str) (rvL_cons (rv_str) (rvL_cons (rv_str) (rvL_nil)))))))),
    g_KINDS := glob_rv (PySem.W.mg_of X G g_KINDS) (rv_tup g0_KINDS (by simp) (rvL_cons (rv_str) (rvL_cons (rv_str) (rvL_cons (rv_str) (rvL_cons (rv_str) (rvL_cons (rv_str) (rvL_cons (rv_str) (rvL_nil)))))))),
    g_MOST_DEPTH := glob_int (PySem.W.mg_of X G g_MOST_DEPTH),
    g_MOST_PAGES := glob_int (PySem.W.mg_of X G g_MOST_PAGES),
    g_MOST_SIZE := glob_int (PySem.W.mg_of X G g_MOST_SIZE),
    g_SINGLE := glob_int (PySem.W.mg_of X G g_SINGLE),
    h_KINDS := ⟨_, _, PySem.W.mg_of X G g_KINDS, g0_KINDS, rfl, rfl⟩ }
  exact ⟨_, fun s v => .of_eq rfl, fun base _ _ => end_ok T⟩
end
end K71
open PySem PySem.W PyProof.Rows in
set_option maxHeartbeats 0 in
set_option maxRecDepth 100000 in
theorem PySem.Challenge.cw_stillroom_k71_sound_facts_holds : PySem.Challenge.rw_stillroom_k71_sound_facts.Holds := by
  w_on; o_law; k_head; (case hw => w_witness2)
  k_fill
  refine L2.walk_of (l := PySem.Challenge.rw_stillroom_k71_sound_facts) (n := 63) (k := 4) (x := "_law_script") (CX := fun w => L2.CX PySem.Challenge.rw_stillroom_k71_sound_facts.prog w) (sp := fun w => Dv.spLaw _) rfl (by decide) rfl ⟨rfl, by decide, by decide⟩ (fun w h Y => PySem.W.kIn_of Y) ?F (fun _ _ a ns hl _ hS => ⟨a, ns, rfl, hS, hl, fun _ => rfl⟩) (fun _ _ _ _ _ z => Dv.cx_no z)
  case F =>
    intro w mg fa h KX G hmg
    refine' K71.all_mk KX G hmg ?a0 ?l0 ?c0 ?k0 ?a1 ?l1 ?c1 ?k1 ?a2 ?l2 ?c2 ?k2 ?a3 ?l3 ?c3 ?k3 ?a4 ?l4 ?c4 ?k4 ?a5 ?l5 ?c5 ?k5 ?a6 ?l6 ?c6 ?k6 ?a7 ?l7 ?c7 ?k7 ?a8 ?l8 ?c8 ?k8 ?a9 ?l9 ?c9 ?k9 ?a10 ?l10 ?c10 ?k10 ?a11 ?l11 ?c11 ?k11 ?a12 ?l12 ?c12 ?k12 ?a13 ?l13 ?c13 ?k13 ?a14 ?l14 ?c14 ?k14 ?a15 ?l15 ?c15 ?k15 ?a16 ?l16 ?c16 ?k16 ?z_abs ?z_all ?z_bool ?z_int ?z_isinstance ?z_len ?z_list ?z_range ?z_sorted ?z_str ?z_tuple ?z_zip ?g_ACTS ?g0_ACTS ?g_KINDS ?g0_KINDS ?g_MOST_DEPTH ?g_MOST_PAGES ?g_MOST_SIZE ?g_SINGLE
    (case a0 => k_is)
    (case l0 => k_is)
    (case c0 => k_is)
    (case k0 => k_is)
    (case a1 => k_is)
    (case l1 => k_is)
    (case c1 => k_is)
    (case k1 => k_is)
    (case a2 => k_is)
    (case l2 => k_is)
    (case c2 => k_is)
    (case k2 => k_is)
    (case a3 => k_is)
    (case l3 => k_is)
    (case c3 => k_is)
    (case k3 => k_is)
    (case a4 => k_is)
    (case l4 => k_is)
    (case c4 => k_is)
    (case k4 => k_is)
    (case a5 => k_is)
    (case l5 => k_is)
    (case c5 => k_is)
    (case k5 => k_is)
    (case a6 => k_is)
    (case l6 => k_is)
    (case c6 => k_is)
    (case k6 => k_is)
    (case a7 => k_is)
    (case l7 => k_is)
    (case c7 => k_is)
    (case k7 => k_is)
    (case a8 => k_is)
    (case l8 => k_is)
    (case c8 => k_is)
    (case k8 => k_is)
    (case a9 => k_is)
    (case l9 => k_is)
    (case c9 => k_is)
    (case k9 => k_is)
    (case a10 => k_is)
    (case l10 => k_is)
    (case c10 => k_is)
    (case k10 => k_is)
    (case a11 => k_is)
    (case l11 => k_is)
    (case c11 => k_is)
    (case k11 => k_is)
    (case a12 => k_is)
    (case l12 => k_is)
    (case c12 => k_is)
    (case k12 => k_is)
    (case a13 => k_is)
    (case l13 => k_is)
    (case c13 => k_is)
    (case k13 => k_is)
    (case a14 => k_is)
    (case l14 => k_is)
    (case c14 => k_is)
    (case k14 => k_is)
    (case a15 => k_is)
    (case l15 => k_is)
    (case c15 => k_is)
    (case k15 => k_is)
    (case a16 => k_is)
    (case l16 => k_is)
    (case c16 => k_is)
    (case k16 => k_is)
    (case z_abs => k_is)
    (case z_all => k_is)
    (case z_bool => k_is)
    (case z_int => k_is)
    (case z_isinstance => k_is)
    (case z_len => k_is)
    (case z_list => k_is)
    (case z_range => k_is)
    (case z_sorted => k_is)
    (case z_str => k_is)
    (case z_tuple => k_is)
    (case z_zip => k_is)
    (case g_ACTS => k_is)
    (case g0_ACTS => k_is)
    (case g_KINDS => k_is)
    (case g0_KINDS => k_is)
    (case g_MOST_DEPTH => k_is)
    (case g_MOST_PAGES => k_is)
    (case g_MOST_SIZE => k_is)
    (case g_SINGLE => k_is)
#print axioms PySem.Challenge.cw_stillroom_k71_sound_facts_holds
