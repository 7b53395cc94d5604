import PyProof.Rows.All
import Wide.All
import OpenK.AllK
import Wide.FinOn
import HandS.ForMost
import HandS.ForExc
import HandS.Walk
import HandS.ExcCtx
import HandS.HotCalls
import HandS.ExcInitHot
import HandS.Wide
import HandS.TupAny
import HandS.IsInst
import HandS.SortInts
import HandS.Deep
import HandS.Conv
import HandS.Rev
import HandS.RevRange
import HandS.Zip
import HandS.ExcInit
import HandS.ExcField
import HandS.ExcIs
import KE.KExcIs
import KE.GoesEnum
import KE.KRevIter
import HandS.Strs
import KE.GoesNew
import HandS.WideBits
import PyProof.Rows.IntBool
import PySem.Challenge.RW_stoodthen_k24_whole_handed_lives_and_pap
section
set_option Elab.async false
set_option linter.all false
set_option maxRecDepth 100000
set_option maxHeartbeats 4000000
/-! Dn0: plain data, what stands for it in a heap, environments of a def, the state of a running def. -/
namespace Dn
open PySem PySem.Spec L2
open PyProof.Rows
/-- plain data -/
inductive D where
  | non | bl (b : Bool) | int (i : Int) | str (s : Str) | tup (xs : List D) | lst (xs : List D) | scr (xs : List D)
/-- data that is owned (its lists may still change), leaves: data that stays -/
inductive O where
  | d (x : D) | l (os : List O) | t (xs : List D)
abbrev Env := List (Option O)

mutual
/-- v stands for the data x, in the heap G of what stays -/
inductive Rep (K : PySem.W.Frag) (G : Hp) : V → D → Prop where
  | non : Rep K G .non .non
  | bl (b : Bool) : Rep K G (.bl b) (.bl b)
  | int (i : Int) : Rep K G (.int i) (.int i)
  | str (s : Str) : Rep K G (.str s) (.str s)
  | tup {a : Addr} {vs : List V} {xs : List D} : SqT K G a vs → Reps K G vs xs → Rep K G (.ref a) (.tup xs)
  | lst {a : Addr} {vs : List V} {xs : List D} : G a = some (.lst vs) → Reps K G vs xs → Rep K G (.ref a) (.lst xs)
  | scr {a : Addr} {vs : List V} {xs : List D} : SqL K G a vs → Reps K G vs xs → Rep K G (.ref a) (.scr xs)
inductive Reps (K : PySem.W.Frag) (G : Hp) : List V → List D → Prop where
  | nil : Reps K G [] []
  | cons {v : V} {x : D} {vs : List V} {xs : List D} : Rep K G v x → Reps K G vs xs → Reps K G (v :: vs) (x :: xs)
end
mutual
/-- v stands for the owned thing o, whose own lists are at fp -/
inductive ORep (K : PySem.W.Frag) (G H : Hp) : V → O → List Addr → Prop where
  | d {v : V} {x : D} : Rep K G v x → ORep K G H v (.d x) []
  | l {a : Addr} {vs : List V} {os : List O} {fp : List Addr} : H a = some (.lst vs) → G a = none → OReps K G H vs os fp → ORep K G H (.ref a) (.l os) (a :: fp)
  | t {a : Addr} {ob : Obj} {vs : List V} {xs : List D} : G a = some (.frz ob (.tup vs)) → ob.dict = none → Reps K G vs xs → ORep K G H (.ref a) (.t xs) []
inductive OReps (K : PySem.W.Frag) (G H : Hp) : List V → List O → List Addr → Prop where
  | nil : OReps K G H [] [] []
  | cons {v : V} {o : O} {f : List Addr} {vs : List V} {os : List O} {fp : List Addr} : ORep K G H v o f → OReps K G H vs os fp → OReps K G H (v :: vs) (o :: os) (f ++ fp)
end
/-- slots and what is known of them -/
inductive Cells (K : PySem.W.Frag) (G H : Hp) : List (Option V) → List (Option O) → List Addr → Prop where
  | nil : Cells K G H [] [] []
  | skip {v : Option V} {vs : List (Option V)} {os : List (Option O)} {fp : List Addr} : Cells K G H vs os fp → Cells K G H (v :: vs) (none :: os) fp
  | cons {v : V} {o : O} {f : List Addr} {vs : List (Option V)} {os : List (Option O)} {fp : List Addr} : ORep K G H v o f → Cells K G H vs os fp → Cells K G H (some v :: vs) (some o :: os) (f ++ fp)

def Sub (G H : Hp) : Prop := ∀ a o, G a = some o → H a = some o
theorem Sub.refl (G : Hp) : Sub G G := fun _ _ h => h
theorem Sub.trans {A B C : Hp} (h : Sub A B) (g : Sub B C) : Sub A C := fun a o e => g a o (h a o e)
theorem Sub.sqL {K : PySem.W.Frag} {G H : Hp} {a : Addr} {xs : List V} (e : Sub G H) (h : SqL K G a xs) : SqL K H a xs := by
  rcases h with (h | ⟨o, h⟩) | h
  · exact .inl (.inl (e _ _ h))
  · exact .inl (.inr ⟨o, e _ _ h⟩)
  · exact .inr h
theorem Sub.sqT {K : PySem.W.Frag} {G H : Hp} {a : Addr} {xs : List V} (e : Sub G H) (h : SqT K G a xs) : SqT K H a xs := by
  rcases h with (h | ⟨o, h⟩) | h
  · exact .inl (.inl (e _ _ h))
  · exact .inl (.inr ⟨o, e _ _ h⟩)
  · exact .inr h

section
variable {K : PySem.W.Frag} {G G' H H' : Hp}
mutual
theorem Rep.mono (e : Sub G G') : ∀ {v : V} {x : D}, Rep K G v x → Rep K G' v x
  | _, _, .non => .non
  | _, _, .bl b => .bl b
  | _, _, .int i => .int i
  | _, _, .str s => .str s
  | _, _, .tup h r => .tup (e.sqT h) (Reps.mono e r)
  | _, _, .lst h r => .lst (e _ _ h) (Reps.mono e r)
  | _, _, .scr h r => .scr (e.sqL h) (Reps.mono e r)
theorem Reps.mono (e : Sub G G') : ∀ {vs : List V} {xs : List D}, Reps K G vs xs → Reps K G' vs xs
  | _, _, .nil => .nil
  | _, _, .cons h r => .cons (Rep.mono e h) (Reps.mono e r)
end
/-- G and H change to G' and H', but at fp all is as it was -/
def Keep (G H G' H' : Hp) (fp : List Addr) : Prop := Sub G G' ∧ ∀ a ∈ fp, H' a = H a ∧ (G a = none → G' a = none)
theorem Keep.left {a b : List Addr} (h : Keep G H G' H' (a ++ b)) : Keep G H G' H' a := ⟨h.1, fun x m => h.2 x (List.mem_append_left _ m)⟩
theorem Keep.right {a b : List Addr} (h : Keep G H G' H' (a ++ b)) : Keep G H G' H' b := ⟨h.1, fun x m => h.2 x (List.mem_append_right _ m)⟩
theorem Keep.tail {a : Addr} {b : List Addr} (h : Keep G H G' H' (a :: b)) : Keep G H G' H' b := ⟨h.1, fun x m => h.2 x (List.mem_cons_of_mem _ m)⟩
mutual
theorem ORep.keep : ∀ {v : V} {o : O} {fp : List Addr}, Keep G H G' H' fp → ORep K G H v o fp → ORep K G' H' v o fp
  | _, _, _, k, .d r => .d (r.mono k.1)
  | _, _, _, k, .t h g r => .t (k.1 _ _ h) g (r.mono k.1)
  | _, _, _, k, .l h g r => .l (((k.2 _ List.mem_cons_self).1).trans h) ((k.2 _ List.mem_cons_self).2 g) (OReps.keep k.tail r)
theorem OReps.keep : ∀ {v : List V} {o : List O} {fp : List Addr}, Keep G H G' H' fp → OReps K G H v o fp → OReps K G' H' v o fp
  | _, _, _, k, .nil => .nil
  | _, _, _, k, .cons h r => .cons (ORep.keep k.left h) (OReps.keep k.right r)
end
theorem Cells.keep : ∀ {v : List (Option V)} {o : List (Option O)} {fp : List Addr}, Keep G H G' H' fp → Cells K G H v o fp → Cells K G' H' v o fp
  | _, _, _, k, .nil => .nil
  | _, _, _, k, .skip r => .skip (Cells.keep k r)
  | _, _, _, k, .cons h r => .cons (ORep.keep k.left h) (Cells.keep k.right r)
/-! what is owned stands in H, not in G -/
mutual
theorem ORep.own : ∀ {v : V} {o : O} {fp : List Addr}, ORep K G H v o fp → ∀ a ∈ fp, (∃ xs, H a = some (.lst xs)) ∧ G a = none
  | _, _, _, .d _, _, m => by cases m
  | _, _, _, .t _ _ _, _, m => by cases m
  | _, _, _, .l h g r, a, m => by
    rcases List.mem_cons.mp m with rfl | m
    · exact ⟨⟨_, h⟩, g⟩
    · exact OReps.own r a m
theorem OReps.own : ∀ {v : List V} {o : List O} {fp : List Addr}, OReps K G H v o fp → ∀ a ∈ fp, (∃ xs, H a = some (.lst xs)) ∧ G a = none
  | _, _, _, .nil, _, m => by cases m
  | _, _, _, .cons h r, a, m => by
    rcases List.mem_append.mp m with m | m
    · exact ORep.own h a m
    · exact OReps.own r a m
end
theorem Cells.own : ∀ {v : List (Option V)} {o : List (Option O)} {fp : List Addr}, Cells K G H v o fp → ∀ a ∈ fp, (∃ xs, H a = some (.lst xs)) ∧ G a = none
  | _, _, _, .nil, _, m => by cases m
  | _, _, _, .skip r, a, m => Cells.own r a m
  | _, _, _, .cons h r, a, m => by
    rcases List.mem_append.mp m with m | m
    · exact ORep.own h a m
    · exact Cells.own r a m
/-! ### to freeze -/
mutual
def frz : O → D
  | .d x => x
  | .l os => .lst (frzs os)
  | .t xs => .tup xs
def frzs : List O → List D
  | [] => []
  | o :: r => frz o :: frzs r
end
/-- G with what stands in H at fp -/
def join (G H : Hp) (fp : List Addr) : Hp := fun a => if a ∈ fp then H a else G a
theorem join_in {fp : List Addr} {a : Addr} (h : a ∈ fp) : join G H fp a = H a := if_pos h
theorem join_out {fp : List Addr} {a : Addr} (h : a ∉ fp) : join G H fp a = G a := if_neg h
theorem join_nil : join G H [] = G := by
  funext a
  exact if_neg (by simp)
theorem Sub.join {fp : List Addr} (h : ∀ a ∈ fp, G a = none) : Sub G (join G H fp) := fun a o e => by
  by_cases m : a ∈ fp
  · rw [h a m] at e
    cases e
  · rw [join_out m]
    exact e
mutual
theorem ORep.frz (e : Sub G G') : ∀ {v : V} {o : O} {fp : List Addr}, (∀ a ∈ fp, G' a = H a) → ORep K G H v o fp → Rep K G' v (Dn.frz o)
  | _, _, _, k, .d r => r.mono e
  | _, _, _, k, .t h g r => .tup (.inl (.inr ⟨_, e _ _ h⟩)) (r.mono e)
  | _, _, _, k, .l h g r => .lst ((k _ List.mem_cons_self).trans h) (OReps.frz e (fun a m => k a (List.mem_cons_of_mem _ m)) r)
theorem OReps.frz (e : Sub G G') : ∀ {v : List V} {o : List O} {fp : List Addr}, (∀ a ∈ fp, G' a = H a) → OReps K G H v o fp → Reps K G' v (frzs o)
  | _, _, _, k, .nil => .nil
  | _, _, _, k, .cons h r => .cons (ORep.frz e (fun a m => k a (List.mem_append_left _ m)) h) (OReps.frz e (fun a m => k a (List.mem_append_right _ m)) r)
end
end
/-! ### lists of slots -/
section
variable {K : PySem.W.Frag} {G H : Hp}
theorem Cells.length : ∀ {v : List (Option V)} {o : List (Option O)} {fp : List Addr}, Cells K G H v o fp → v.length = o.length
  | _, _, _, .nil => rfl
  | _, _, _, .skip r => congrArg (· + 1) r.length
  | _, _, _, .cons _ r => congrArg (· + 1) r.length
theorem OReps.length : ∀ {v : List V} {o : List O} {fp : List Addr}, OReps K G H v o fp → v.length = o.length
  | _, _, _, .nil => rfl
  | _, _, _, .cons _ r => congrArg (· + 1) r.length
theorem Reps.length : ∀ {v : List V} {o : List D}, Reps K G v o → v.length = o.length
  | _, _, .nil => rfl
  | _, _, .cons _ r => congrArg (· + 1) r.length
/-- a slot is taken out -/
theorem Cells.take : ∀ {i : Nat} {vs : List (Option V)} {os : List (Option O)} {fp : List Addr} {o : O}, Cells K G H vs os fp → os[i]? = some (some o) →
    ∃ v f fr, vs[i]? = some (some v) ∧ ORep K G H v o f ∧ Cells K G H vs (os.set i none) fr ∧ fp.Perm (f ++ fr)
  | _, _, _, _, _, .nil, h => by simp at h
  | 0, _, _, _, _, .skip _, h => by simp at h
  | 0, _, _, _, _, .cons (v := v) q r, h => by
    have e := Option.some.inj (Option.some.inj h)
    subst e
    exact ⟨v, _, _, rfl, q, .skip r, .refl _⟩
  | i + 1, _, _, _, _, .skip r, h => by
    obtain ⟨v, f, fr, h1, h2, h3, h4⟩ := r.take (i := i) (by simpa using h)
    exact ⟨v, f, fr, by simpa using h1, h2, .skip h3, h4⟩
  | i + 1, _, _, _, _, .cons (f := f0) q r, h => by
    obtain ⟨v, f, fr, h1, h2, h3, h4⟩ := r.take (i := i) (by simpa using h)
    refine ⟨v, f, f0 ++ fr, by simpa using h1, h2, .cons q h3, ?_⟩
    refine (List.Perm.append_left f0 h4).trans ?_
    rw [← List.append_assoc, ← List.append_assoc]
    exact List.Perm.append_right _ List.perm_append_comm
/-- a slot is filled -/
theorem Cells.put : ∀ {i : Nat} {vs : List (Option V)} {os : List (Option O)} {fr f : List Addr} {v : V} {o : O}, Cells K G H vs os fr → ORep K G H v o f → i < vs.length → os[i]? = some none →
    ∃ fp, Cells K G H (vs.set i (some v)) (os.set i (some o)) fp ∧ fp.Perm (f ++ fr)
  | _, _, _, _, _, _, _, .nil, _, h, _ => by simp at h
  | 0, _, _, _, _, _, _, .skip r, q, _, _ => ⟨_, .cons q r, .refl _⟩
  | 0, _, _, _, _, _, _, .cons _ _, _, _, h => by simp at h
  | i + 1, _, _, _, _, _, _, .skip r, q, hi, h => by
    obtain ⟨fp, h1, h2⟩ := r.put (i := i) q (by simpa using hi) (by simpa using h)
    exact ⟨fp, .skip h1, h2⟩
  | i + 1, _, _, _, f, _, _, .cons (f := f0) q0 r, q, hi, h => by
    obtain ⟨fp, h1, h2⟩ := r.put (i := i) q (by simpa using hi) (by simpa using h)
    refine ⟨f0 ++ fp, .cons q0 h1, ?_⟩
    refine (List.Perm.append_left f0 h2).trans ?_
    rw [← List.append_assoc, ← List.append_assoc]
    exact List.Perm.append_right _ List.perm_append_comm
/-- a slot is forgotten -/
theorem Cells.clear : ∀ {i : Nat} {vs : List (Option V)} {os : List (Option O)} {fp : List Addr} (y : Option V), Cells K G H vs os fp → ∃ fr, Cells K G H (vs.set i y) (os.set i none) fr ∧ fr.Sublist fp
  | _, _, _, _, _, .nil => ⟨[], .nil, .refl _⟩
  | 0, _, _, _, _, .skip r => ⟨_, .skip r, .refl _⟩
  | 0, _, _, _, _, .cons q r => ⟨_, .skip r, List.sublist_append_right _ _⟩
  | i + 1, _, _, _, y, .skip r => by
    obtain ⟨fr, h1, h2⟩ := r.clear (i := i) y
    exact ⟨fr, .skip h1, h2⟩
  | i + 1, _, _, _, y, .cons (f := f0) q r => by
    obtain ⟨fr, h1, h2⟩ := r.clear (i := i) y
    exact ⟨f0 ++ fr, .cons q h1, List.Sublist.append (List.Sublist.refl f0) h2⟩
end
/-! ### the state of a running def -/
/-- what stood at the entry: all, what stays, what the def may change; pin: slots that keep their value -/
structure Ctx where
  H0 : Hp
  G0 : Hp
  P : List Addr
  pin : Nat → Option V
structure Wd (Γ : Ctx) (G H : Hp) : Prop where
  sub : Sub G H
  ext : Sub Γ.G0 G
  fr : ∀ a, Γ.H0 a ≠ none → a ∉ Γ.P → H a = Γ.H0 a ∧ G a = Γ.G0 a
def Mine (Γ : Ctx) (fp : List Addr) : Prop := ∀ a ∈ fp, a ∈ Γ.P ∨ Γ.H0 a = none
structure R (K : PySem.W.Frag) (Γ : Ctx) (σ : List (Option V)) (env : Env) (τ : List (Option V)) (stk : Env) (G H : Hp) : Prop where
  wd : Wd Γ G H
  pin : ∀ i v, Γ.pin i = some v → σ[i]? = some (some v)
  ex : ∃ f1 f2, Cells K G H σ env f1 ∧ Cells K G H τ stk f2 ∧ (f1 ++ f2).Nodup ∧ Mine Γ (f1 ++ f2)
section
variable {K : PySem.W.Frag} {Γ : Ctx} {σ : List (Option V)} {env : Env} {τ : List (Option V)} {stk : Env} {G H : Hp}
/-- p is laid, the rest is as it was -/
theorem Keep.laid {p : Addr} {o : HO} {fp : List Addr} (hp : H p = none) (hf : ∀ a ∈ fp, ∃ x, H a = some x) : Keep G H G (upd H p o) fp := ⟨Sub.refl G, fun a m => ⟨by
  obtain ⟨x, e⟩ := hf a m
  rw [upd_ne (ne_of_none e hp)], fun z => z⟩⟩
theorem Wd.laid {p : Addr} {o : HO} (w : Wd Γ G H) (hp : H p = none) : Wd Γ G (upd H p o) where
  sub := fun a x e => by
    rw [upd_ne (ne_of_none (w.sub a x e) hp)]
    exact w.sub a x e
  ext := w.ext
  fr := fun a h m => by
    have q := w.fr a h m
    have ne : a ≠ p := fun z => by
      rw [z, hp] at q
      rw [z] at h
      exact h q.1.symm
    rw [upd_ne ne]
    exact q
/-- what is fresh or owned is no part of what was told at the entry -/
theorem Wd.grow {fp : List Addr} (w : Wd Γ G H) (m : Mine Γ fp) (g : ∀ a ∈ fp, G a = none) : Wd Γ (join G H fp) H where
  sub := fun a x e => by
    by_cases h : a ∈ fp
    · rw [join_in h] at e
      exact e
    · rw [join_out h] at e
      exact w.sub a x e
  ext := w.ext.trans (Sub.join g)
  fr := fun a h nm => by
    have q := w.fr a h nm
    have ne : a ∉ fp := fun z => by
      rcases m a z with z | z
      · exact nm z
      · exact h z
    rw [join_out ne]
    exact q
theorem Mine.of_fresh {p : Addr} (w : Wd Γ G H) (hp : H p = none) : p ∈ Γ.P ∨ Γ.H0 p = none := by
  by_cases h : p ∈ Γ.P
  · exact .inl h
  · refine .inr ?_
    cases e : Γ.H0 p with
    | none => rfl
    | some o =>
      have q := (w.fr p (by rw [e]; exact fun z => by cases z) h).1
      rw [hp, e] at q
      cases q
theorem R.owned (r : R K Γ σ env τ stk G H) : ∃ f1 f2, Cells K G H σ env f1 ∧ Cells K G H τ stk f2 ∧ (f1 ++ f2).Nodup ∧ Mine Γ (f1 ++ f2) ∧ ∀ a ∈ f1 ++ f2, (∃ x, H a = some x) ∧ G a = none := by
  obtain ⟨f1, f2, c, s, n, m⟩ := r.ex
  refine ⟨f1, f2, c, s, n, m, fun a h => ?_⟩
  rcases List.mem_append.mp h with h | h
  · obtain ⟨⟨x, e⟩, g⟩ := c.own a h
    exact ⟨⟨_, e⟩, g⟩
  · obtain ⟨⟨x, e⟩, g⟩ := s.own a h
    exact ⟨⟨_, e⟩, g⟩
/-- a thing that stays is laid by -/
theorem R.pushD {v : V} {x : D} (r : R K Γ σ env τ stk G H) (h : Rep K G v x) : R K Γ σ env (some v :: τ) (some (.d x) :: stk) G H := by
  obtain ⟨f1, f2, c, s, n, m⟩ := r.ex
  exact ⟨r.wd, r.pin, f1, [] ++ f2, c, .cons (.d h) s, by simpa using n, by simpa using m⟩
theorem R.pop {v : V} {o : O} (r : R K Γ σ env (some v :: τ) (some o :: stk) G H) : R K Γ σ env τ stk G H := by
  obtain ⟨f1, f2, c, s, n, m⟩ := r.ex
  cases s with
  | @cons _ _ fa _ _ fb q s =>
    have sl : (f1 ++ fb).Sublist (f1 ++ (fa ++ fb)) := List.Sublist.append (List.Sublist.refl _) (List.sublist_append_right _ _)
    exact ⟨r.wd, r.pin, f1, fb, c, s, n.sublist sl, fun a h => m a (sl.subset h)⟩
/-- the thing on top -/
theorem R.top {v : V} {o : O} (r : R K Γ σ env (some v :: τ) (some o :: stk) G H) : ∃ f, ORep K G H v o f := by
  obtain ⟨f1, f2, c, s, n, m⟩ := r.ex
  cases s with
  | cons q s => exact ⟨_, q⟩
theorem R.topD {v : V} {x : D} (r : R K Γ σ env (some v :: τ) (some (.d x) :: stk) G H) : Rep K G v x := by
  obtain ⟨f, h⟩ := r.top
  cases h with
  | d h => exact h
/-- what is known of a slot -/
theorem R.slot {i : Nat} {o : O} (r : R K Γ σ env τ stk G H) (h : env[i]? = some (some o)) : ∃ v f, σ[i]? = some (some v) ∧ ORep K G H v o f := by
  obtain ⟨f1, f2, c, s, n, m⟩ := r.ex
  obtain ⟨v, f, fr, h1, h2, h3, h4⟩ := c.take h
  exact ⟨v, f, h1, h2⟩
theorem R.slotD {i : Nat} {x : D} (r : R K Γ σ env τ stk G H) (h : env[i]? = some (some (.d x))) : ∃ v, σ[i]? = some (some v) ∧ Rep K G v x := by
  obtain ⟨v, f, e, q⟩ := r.slot h
  cases q with
  | d q => exact ⟨v, e, q⟩
theorem R.len (r : R K Γ σ env τ stk G H) : σ.length = env.length := by
  obtain ⟨f1, f2, c, _⟩ := r.ex
  exact c.length
/-- a slot's thing is moved to the top -/
theorem R.move {i : Nat} {o : O} (r : R K Γ σ env τ stk G H) (h : env[i]? = some (some o)) : ∃ v, σ[i]? = some (some v) ∧ R K Γ σ (env.set i none) (some v :: τ) (some o :: stk) G H := by
  obtain ⟨f1, f2, c, s, n, m⟩ := r.ex
  obtain ⟨v, f, fr, h1, h2, h3, h4⟩ := c.take h
  have pm : (f1 ++ f2).Perm (fr ++ (f ++ f2)) := by
    refine (List.Perm.append_right f2 h4).trans ?_
    rw [← List.append_assoc]
    exact List.Perm.append_right _ List.perm_append_comm
  exact ⟨v, h1, r.wd, r.pin, fr, f ++ f2, h3, .cons h2 s, pm.nodup_iff.mp n, fun a q => m a (pm.mem_iff.mpr q)⟩
/-- the top is stored -/
theorem R.store {i : Nat} {v : V} {o : O} (r : R K Γ σ env (some v :: τ) (some o :: stk) G H) (hi : i < env.length) (hp : Γ.pin i = none) : R K Γ (σ.set i (some v)) (env.set i (some o)) τ stk G H := by
  obtain ⟨f1, f2, c, s, n, m⟩ := r.ex
  cases s with
  | @cons _ _ fa _ _ fb q s =>
    obtain ⟨fr, c1, sl⟩ := c.clear (i := i) none
    have hl := c.length
    obtain ⟨fp, c2, pm⟩ := c1.put (i := i) q (by rw [List.length_set]; omega) (by simp [hi])
    rw [List.set_set, List.set_set] at c2
    have p2 : (fp ++ fb).Perm (fr ++ (fa ++ fb)) := by
      refine (List.Perm.append_right fb pm).trans ?_
      rw [← List.append_assoc]
      exact List.Perm.append_right _ List.perm_append_comm
    have sl2 : (fr ++ (fa ++ fb)).Sublist (f1 ++ (fa ++ fb)) := List.Sublist.append sl (List.Sublist.refl _)
    refine ⟨r.wd, fun j w e => ?_, fp, fb, c2, s, p2.nodup_iff.mpr (n.sublist sl2), fun a h => m a (sl2.subset (p2.mem_iff.mp h))⟩
    have ne : i ≠ j := fun z => by
      rw [z, e] at hp
      cases hp
    rw [List.getElem?_set_ne ne]
    exact r.pin j w e
/-- the top is moved back to the slot it came from -/
theorem R.back {i : Nat} {v : V} {o : O} (r : R K Γ σ env (some v :: τ) (some o :: stk) G H) (hi : σ[i]? = some (some v)) : R K Γ σ (env.set i (some o)) τ stk G H := by
  have hl := r.len
  have hlt : i < σ.length := (List.getElem?_eq_some_iff.mp hi).1
  obtain ⟨f1, f2, c, s, n, m⟩ := r.ex
  have es : σ.set i (some v) = σ := by
    apply List.ext_getElem?
    intro j
    by_cases h : i = j
    · subst h
      rw [List.getElem?_set_self hlt]
      exact hi.symm
    · rw [List.getElem?_set_ne h]
  cases s with
  | @cons _ _ fa _ _ fb q s =>
    obtain ⟨fr, c1, sl⟩ := c.clear (i := i) none
    obtain ⟨fp, c2, pm⟩ := c1.put (i := i) q (by rw [List.length_set]; omega) (by simp [← hl, hlt])
    rw [List.set_set, List.set_set, es] at c2
    have p2 : (fp ++ fb).Perm (fr ++ (fa ++ fb)) := by
      refine (List.Perm.append_right fb pm).trans ?_
      rw [← List.append_assoc]
      exact List.Perm.append_right _ List.perm_append_comm
    have sl2 : (fr ++ (fa ++ fb)).Sublist (f1 ++ (fa ++ fb)) := List.Sublist.append sl (List.Sublist.refl _)
    exact ⟨r.wd, r.pin, fp, fb, c2, s, p2.nodup_iff.mpr (n.sublist sl2), fun a h => m a (sl2.subset (p2.mem_iff.mp h))⟩
/-- the top is frozen -/
theorem R.frz {v : V} {o : O} (r : R K Γ σ env (some v :: τ) (some o :: stk) G H) : ∃ G', R K Γ σ env (some v :: τ) (some (.d (Dn.frz o)) :: stk) G' H := by
  obtain ⟨f1, f2, c, s, n, m⟩ := r.ex
  cases s with
  | @cons _ _ fa _ _ fb q s =>
    have gn : ∀ a ∈ fa, G a = none := fun a h => (q.own a h).2
    have ma : Mine Γ fa := fun a h => m a (List.mem_append_right _ (List.mem_append_left _ h))
    have nd := List.nodup_append.mp n
    have nd2 := List.nodup_append.mp nd.2.1
    have k1 : Keep G H (join G H fa) H f1 := ⟨Sub.join gn, fun a h => ⟨rfl, fun z => by
      rw [join_out (fun y => nd.2.2 a h a (List.mem_append_left _ y) rfl)]
      exact z⟩⟩
    have k2 : Keep G H (join G H fa) H fb := ⟨Sub.join gn, fun a h => ⟨rfl, fun z => by
      rw [join_out (fun y => nd2.2.2 a y a h rfl)]
      exact z⟩⟩
    have sl : (f1 ++ ([] ++ fb)).Sublist (f1 ++ (fa ++ fb)) := List.Sublist.append (List.Sublist.refl _) (List.sublist_append_right _ _)
    exact ⟨join G H fa, r.wd.grow ma gn, r.pin, f1, [] ++ fb, c.keep k1, .cons (.d (q.frz (Sub.join gn) fun a h => join_in h)) (s.keep k2), n.sublist sl, fun a h => m a (sl.subset h)⟩
/-- the top of a stack, the rest -/
theorem Cells.split : ∀ {vs : List (Option V)} {os : Env} {f : List Addr}, vs.length = os.length → Cells K G H (vs ++ τ) (os ++ stk) f → ∃ fa fb, f = fa ++ fb ∧ Cells K G H vs os fa ∧ Cells K G H τ stk fb
  | [], [], f, _, q => ⟨[], f, rfl, .nil, q⟩
  | [], _ :: _, _, h, _ => by cases h
  | _ :: _, [], _, h, _ => by cases h
  | _ :: _, none :: _, _, h, .skip q => by
    obtain ⟨fa, fb, e, h1, h2⟩ := Cells.split (Nat.succ.inj h) q
    exact ⟨fa, fb, e, .skip h1, h2⟩
  | _ :: _, some _ :: _, _, h, .cons q q2 => by
    obtain ⟨fa, fb, e, h1, h2⟩ := Cells.split (Nat.succ.inj h) q2
    subst e
    exact ⟨_ ++ fa, fb, (List.append_assoc _ _ _).symm, .cons q h1, h2⟩
theorem Cells.append : ∀ {vs : List (Option V)} {os : Env} {fa fb : List Addr}, Cells K G H vs os fa → Cells K G H τ stk fb → Cells K G H (vs ++ τ) (os ++ stk) (fa ++ fb)
  | _, _, _, _, .nil, q => q
  | _, _, _, _, .skip r, q => .skip (r.append q)
  | _, _, _, _, .cons h r, q => by
    rw [List.append_assoc]
    exact .cons h (r.append q)
theorem Cells.reps : ∀ {vs : List V} {os : List O} {f : List Addr}, Cells K G H (vs.map some) (os.map some) f → OReps K G H vs os f
  | [], [], _, .nil => .nil
  | _ :: _, _ :: _, _, .cons h r => .cons h r.reps
theorem OReps.cells : ∀ {vs : List V} {os : List O} {f : List Addr}, OReps K G H vs os f → Cells K G H (vs.map some) (os.map some) f
  | [], [], _, .nil => .nil
  | _ :: _, _ :: _, _, .cons h r => .cons h r.cells
/-- a new own list of what lies on top -/
theorem R.newL {p : Addr} {vs : List V} {os : List O} (r : R K Γ σ env (vs.map some ++ τ) (os.map some ++ stk) G H) (hl : vs.length = os.length) (hp : H p = none) : R K Γ σ env (some (.ref p) :: τ) (some (.l os) :: stk) G (upd H p (.lst vs)) := by
  obtain ⟨f1, f2, c, s, n, m, ow⟩ := r.owned
  obtain ⟨fa, fb, e, h1', h2⟩ := s.split (by simpa using hl)
  have h1 := h1'.reps
  subst e
  have gp : G p = none := by
    cases e : G p with
    | none => rfl
    | some x =>
      rw [r.wd.sub p x e] at hp
      cases hp
  have kp : ∀ f : List Addr, (∀ a ∈ f, a ∈ f1 ++ (fa ++ fb)) → Keep G H G (upd H p (.lst vs)) f := fun f hf => Keep.laid hp fun a h => (ow a (hf a h)).1
  have np : p ∉ f1 ++ (fa ++ fb) := fun z => by
    obtain ⟨⟨x, e⟩, _⟩ := ow p z
    rw [hp] at e
    cases e
  have pm : (f1 ++ ((p :: fa) ++ fb)).Perm (p :: (f1 ++ (fa ++ fb))) := by
    show (f1 ++ (p :: (fa ++ fb))).Perm _
    exact List.perm_middle
  refine ⟨r.wd.laid hp, r.pin, f1, (p :: fa) ++ fb, c.keep (kp _ fun a h => List.mem_append_left _ h), .cons (.l upd_same gp (h1.keep (kp _ fun a h => List.mem_append_right _ (List.mem_append_left _ h)))) (h2.keep (kp _ fun a h => List.mem_append_right _ (List.mem_append_right _ h))), pm.nodup_iff.mpr (List.nodup_cons.mpr ⟨np, n⟩), fun a h => ?_⟩
  rcases List.mem_cons.mp (pm.mem_iff.mp h) with rfl | h
  · exact Mine.of_fresh r.wd hp
  · exact m a h
/-- the one under the top part comes to the top -/
theorem R.rot {vs : List (Option V)} {os : Env} {v : Option V} {o : Option O} (r : R K Γ σ env (vs ++ v :: τ) (os ++ o :: stk) G H) (hl : vs.length = os.length) : R K Γ σ env (v :: (vs ++ τ)) (o :: (os ++ stk)) G H := by
  obtain ⟨f1, f2, c, s, n, m⟩ := r.ex
  obtain ⟨fa, fb, e, h1, h2⟩ := s.split hl
  subst e
  cases h2 with
  | skip h2 => exact ⟨r.wd, r.pin, f1, fa ++ fb, c, .skip (h1.append h2), n, m⟩
  | @cons _ _ f _ _ fc q h2 =>
    have pm : (f1 ++ (fa ++ (f ++ fc))).Perm (f1 ++ (f ++ (fa ++ fc))) := by
      refine List.Perm.append_left f1 ?_
      rw [← List.append_assoc, ← List.append_assoc]
      exact List.Perm.append_right _ List.perm_append_comm
    exact ⟨r.wd, r.pin, f1, f ++ (fa ++ fc), c, .cons q (h1.append h2), pm.nodup_iff.mp n, fun a h => m a (pm.mem_iff.mpr h)⟩
/-- any cell on top -/
theorem R.pop1 {v : Option V} {o : Option O} (r : R K Γ σ env (v :: τ) (o :: stk) G H) : R K Γ σ env τ stk G H := by
  obtain ⟨f1, f2, c, s, n, m⟩ := r.ex
  cases s with
  | skip s => exact ⟨r.wd, r.pin, f1, f2, c, s, n, m⟩
  | @cons _ _ fa _ _ fb q s =>
    have sl : (f1 ++ fb).Sublist (f1 ++ (fa ++ fb)) := List.Sublist.append (List.Sublist.refl _) (List.sublist_append_right _ _)
    exact ⟨r.wd, r.pin, f1, fb, c, s, n.sublist sl, fun a h => m a (sl.subset h)⟩
theorem R.popN : ∀ {vs : List (Option V)} {os : Env}, vs.length = os.length → R K Γ σ env (vs ++ τ) (os ++ stk) G H → R K Γ σ env τ stk G H
  | [], [], _, r => r
  | [], _ :: _, h, _ => by cases h
  | _ :: _, [], h, _ => by cases h
  | _ :: _, _ :: _, h, r => R.popN (Nat.succ.inj h) (R.pop1 r)
/-- a new thing that stays -/
theorem R.newG {p : Addr} {o : HO} (r : R K Γ σ env τ stk G H) (hp : H p = none) : R K Γ σ env τ stk (upd G p o) (upd H p o) ∧ Sub G (upd G p o) := by
  obtain ⟨f1, f2, c, s, n, m, ow⟩ := r.owned
  have gp : G p = none := by
    cases e : G p with
    | none => rfl
    | some x =>
      rw [r.wd.sub p x e] at hp
      cases hp
  have sg : Sub G (upd G p o) := fun a x e => by
    rw [upd_ne (ne_of_none e gp)]
    exact e
  have kp : ∀ f : List Addr, (∀ a ∈ f, a ∈ f1 ++ f2) → Keep G H (upd G p o) (upd H p o) f := fun f hf => ⟨sg, fun a h => by
    obtain ⟨⟨x, e⟩, g⟩ := ow a (hf a h)
    rw [upd_ne (ne_of_none e hp), upd_ne (ne_of_none e hp)]
    exact ⟨rfl, fun z => z⟩⟩
  have w : Wd Γ (upd G p o) (upd H p o) := {
    sub := fun a x e => by
      by_cases h : a = p
      · subst h
        rw [upd_same] at e
        rw [upd_same]
        exact e
      · rw [upd_ne h] at e
        rw [upd_ne h]
        exact r.wd.sub a x e
    ext := r.wd.ext.trans sg
    fr := fun a h nm => by
      have q := r.wd.fr a h nm
      have ne : a ≠ p := fun z => by
        rw [z, hp] at q
        rw [z] at h
        exact h q.1.symm
      rw [upd_ne ne, upd_ne ne]
      exact q }
  exact ⟨⟨w, r.pin, f1, f2, c.keep (kp _ fun a h => List.mem_append_left _ h), s.keep (kp _ fun a h => List.mem_append_right _ h), n, m⟩, sg⟩
/-- a new thing that nobody asks for -/
theorem R.laid {p : Addr} {o : HO} (r : R K Γ σ env τ stk G H) (hp : H p = none) : R K Γ σ env τ stk G (upd H p o) := by
  obtain ⟨f1, f2, c, s, n, m, ow⟩ := r.owned
  exact ⟨r.wd.laid hp, r.pin, f1, f2, c.keep (Keep.laid hp fun a h => (ow a (List.mem_append_left _ h)).1), s.keep (Keep.laid hp fun a h => (ow a (List.mem_append_right _ h)).1), n, m⟩
end
end Dn
end
section
set_option Elab.async false
set_option linter.all false
set_option maxRecDepth 100000
set_option maxHeartbeats 4000000
/-! Dn1: what expressions and statements are worth (denotations), and what it means that a reading keeps to one. -/
namespace Dn
open PySem PySem.Spec L2
open PyProof.Rows hiding St
/-- an own exception: its class's name, its fields -/
structure Exc where
  cls : Str
  fs : List (Str × D)
inductive Rs (α : Type) where
  | ok (a : α) (e : Env) | exc (x : Exc) (e : Env) | fail
/-- what a statement ends with -/
inductive SR where
  | nx (e : Env) | rt (o : O) (e : Env) | bk (e : Env) | ct (e : Env) | exc (x : Exc) (e : Env) | fail
/-- what a def ends with; as: what its arguments are behind it -/
inductive FR where
  | ok (o : O) (as : Env) | exc (x : Exc) (as : Env) | fail
abbrev ME := Env → Rs O
abbrev MS := Env → SR
/-- an operand: a name that is only looked at, or an expression -/
inductive AK where
  | nm (i : Nat) | ex (m : ME)
def XRep (K : PySem.W.Frag) (mg : Str → Option Value) (G H : Hp) (x : Exc) (c : Value) (d : Option Addr) : Prop :=
  ∃ (C dd : Addr) (fs : List (Str × V)), c = .ref C ∧ mg x.cls = some (.ref C) ∧ d = some dd ∧ G dd = some (.xd fs) ∧ fs.map Prod.fst = x.fs.map Prod.fst ∧ Reps K G (fs.map Prod.snd) (x.fs.map Prod.snd)
section
variable (K : PySem.W.Frag) (mg : Str → Option Value) (Γ : Ctx) (W : WX) (σ : St) (τ : List (Option V)) (stk : Env)
def RsQ {α : Type} (P : α → Env → Prop) : Rs α → Prop
  | .ok a e => P a e
  | .exc x e => ∀ c d G' H', R K Γ σ e τ stk G' H' → XRep K mg G' H' x c d → W c d σ H'
  | .fail => False
end
/-- what a derivation may lean on: slots that keep their value, facts of what stays -/
structure Asm where
  np : List Nat
  fact : Ctx → Prop
  st : ∀ (Γ : Ctx) (H G : Hp) (P : List Addr), Sub Γ.G0 G → fact Γ → fact ⟨H, G, P, Γ.pin⟩
abbrev asm (np : List Nat) : Asm := ⟨np, fun _ => True, fun _ _ _ _ _ _ => trivial⟩
def PinOk (Γ : Ctx) (np : Asm) : Prop := (∀ i v, Γ.pin i = some v → i ∈ np.np) ∧ np.fact Γ
theorem PinOk.base {Γ : Ctx} {np : Asm} {H G : Hp} {P : List Addr} (h : PinOk Γ np) (s : Sub Γ.G0 G) : PinOk ⟨H, G, P, Γ.pin⟩ np := ⟨h.1, np.st Γ H G P s h.2⟩
section
variable (K : PySem.W.Frag) (mg : Str → Option Value) (W : WX) (np : Asm)
/-- an expression's reading keeps to m -/
def ESnd (t : TE) (m : ME) : Prop := ∀ (Γ : Ctx) (σ : St) (env : Env) (τ : List (Option V)) (stk : Env) (G H : Hp) (Q : VK), PinOk Γ np → R K Γ σ env τ stk G H →
  RsQ K mg Γ W σ τ stk (fun o e => ∀ v G' H', R K Γ σ e (some v :: τ) (some o :: stk) G' H' → Q v H') (m env) → t σ H Q
def evalK : AK → Env → Rs (Option O)
  | .nm i, e => match e[i]? with
    | some (some _) => .ok none e
    | _ => .fail
  | .ex m, e => match m e with
    | .ok o e => .ok (some o) e
    | .exc x e => .exc x e
    | .fail => .fail
def isNm : AK → St → V → Prop
  | .nm i, σ, v => σ[i]? = some (some v)
  | .ex _, _, _ => True
def KSnd (t : TE) (k : AK) : Prop := ∀ (Γ : Ctx) (σ : St) (env : Env) (τ : List (Option V)) (stk : Env) (G H : Hp) (Q : VK), PinOk Γ np → R K Γ σ env τ stk G H →
  RsQ K mg Γ W σ τ stk (fun c e => ∀ v G' H', R K Γ σ e (some v :: τ) (c :: stk) G' H' → isNm k σ v → Q v H') (evalK k env) → t σ H Q
def evalA : List AK → Env → Rs (List (Option O))
  | [], e => .ok [] e
  | k :: ks, e => match evalK k e with
    | .ok c e1 => match evalA ks e1 with
      | .ok cs e2 => .ok (c :: cs) e2
      | .exc x e2 => .exc x e2
      | .fail => .fail
    | .exc x e1 => .exc x e1
    | .fail => .fail
def areNm : List AK → St → List V → Prop
  | [], _, vs => vs = []
  | k :: ks, σ, vs => ∃ v r, vs = v :: r ∧ isNm k σ v ∧ areNm ks σ r
def ASnd (t : TA) (ks : List AK) : Prop := ∀ (Γ : Ctx) (σ : St) (env : Env) (τ : List (Option V)) (stk : Env) (G H : Hp) (Q : List V → Hp → Prop), PinOk Γ np → R K Γ σ env τ stk G H →
  RsQ K mg Γ W σ τ stk (fun cs e => ∀ vs G' H', cs.length = vs.length → R K Γ σ e (vs.map some ++ τ) (cs ++ stk) G' H' → areNm ks σ vs → Q vs H') (evalA ks env) → t σ H Q
/-- a test's reading keeps to m -/
def TSnd (t : TT) (m : Env → Rs Bool) : Prop := ∀ (Γ : Ctx) (σ : St) (env : Env) (τ : List (Option V)) (stk : Env) (G H : Hp) (Q : Bool → Hp → Prop), PinOk Γ np → R K Γ σ env τ stk G H →
  RsQ K mg Γ W σ τ stk (fun b e => ∀ G' H', R K Γ σ e τ stk G' H' → Q b H') (m env) → t σ H Q
/-- what is wanted behind a statement -/
def SRQ (Γ : Ctx) (D : Ends) : SR → Prop
  | .nx e => ∀ σ' G' H', R K Γ σ' e [] [] G' H' → D.nx σ' H'
  | .rt o e => ∀ σ' v G' H', R K Γ σ' e [some v] [some o] G' H' → D.rt v H'
  | .bk e => ∀ σ' G' H', R K Γ σ' e [] [] G' H' → D.bk σ' H'
  | .ct e => ∀ σ' G' H', R K Γ σ' e [] [] G' H' → D.ct σ' H'
  | .exc x e => ∀ σ' c d G' H', R K Γ σ' e [] [] G' H' → XRep K mg G' H' x c d → W c d σ' H'
  | .fail => False
def SSnd (t : TS) (m : MS) : Prop := ∀ (Γ : Ctx) (σ : St) (env : Env) (G H : Hp) (D : Ends), PinOk Γ np → R K Γ σ env [] [] G H → SRQ K mg W Γ D (m env) → t D σ H
end
section
variable (X : Cx) (W : WX) (np : Asm)
structure DE (e : Expr) (m : ME) : Prop where
  ex : ∃ t, PE X e t ∧ ESnd X.K X.mg W np t m
structure DK (e : Expr) (k : AK) : Prop where
  ex : ∃ t, PE X e t ∧ KSnd X.K X.mg W np t k
structure DA (es : List Expr) (ks : List AK) : Prop where
  ex : ∃ t, PA X es t ∧ ASnd X.K X.mg W np t ks
structure DT (e : Expr) (m : Env → Rs Bool) : Prop where
  ex : ∃ t, PT X e t ∧ TSnd X.K X.mg W np t m
structure DS (st : Stmt) (m : MS) : Prop where
  ex : ∃ t, PS X st t ∧ SSnd X.K X.mg W np t m
structure DSs (st : List Stmt) (m : MS) : Prop where
  ex : ∃ t, PSs X st t ∧ SSnd X.K X.mg W np t m
end
/-! ### operands -/
section
variable {X : Cx} {W : WX} {np : Asm} {K : PySem.W.Frag} {mg : Str → Option Value}
theorem R.dropMid {Γ : Ctx} {σ : St} {e : Env} {τ : List (Option V)} {stk : Env} {G H : Hp} {v : Option V} {o : Option O} : ∀ {vs : List (Option V)} {os : Env}, vs.length = os.length → R K Γ σ e (v :: (vs ++ τ)) (o :: (os ++ stk)) G H → R K Γ σ e (v :: τ) (o :: stk) G H
  | [], [], _, r => r
  | [], _ :: _, h, _ => by cases h
  | _ :: _, [], h, _ => by cases h
  | y :: vs, z :: os, h, r => by
    have q : R K Γ σ e (y :: ([v] ++ (vs ++ τ))) (z :: ([o] ++ (os ++ stk))) G H := R.rot (vs := [v]) (os := [o]) r rfl
    exact R.dropMid (Nat.succ.inj h) q.pop1
theorem RsQ.up {α : Type} {Γ : Ctx} {σ : St} {τ : List (Option V)} {stk : Env} {v : Option V} {o : Option O} {P P' : α → Env → Prop} : ∀ {r : Rs α}, RsQ K mg Γ W σ τ stk P r → (∀ a e, P a e → P' a e) → RsQ K mg Γ W σ (v :: τ) (o :: stk) P' r
  | .ok a e, h, k => k a e h
  | .exc x e, h, _ => fun c d G' H' r q => h c d G' H' r.pop1 q
  | .fail, h, _ => h
theorem dk_nm (i : Nat) {x : Str} {pos : Pos} (hN : X.N[i]? = some x := by rfl) (hv : Vis X.env.scope x := by first | exact Or.inl rfl | exact Or.inr (Or.inl rfl) | exact Or.inr (Or.inr rfl)) (hd : (x == ("__debug__" : Str)) = false := by decide)
    (hcd : (x == ("__classdict__" : Str)) = false := by decide) : DK X W np (.Name x pos) (.nm i) := by
  refine ⟨_, pe_var (i := i) hN hv hd hcd, fun Γ σ env τ stk G H Q hp r h => ?_⟩
  simp only [evalK] at h
  split at h
  · rename_i o he
    obtain ⟨v, f, e, q⟩ := r.slot he
    obtain ⟨f1, f2, c, s, n, m⟩ := r.ex
    exact ⟨v, e, h v G H ⟨r.wd, r.pin, f1, f2, c, .skip s, n, m⟩ e⟩
  · exact False.elim h
theorem dk_ex {e : Expr} {m : ME} (h : DE X W np e m) : DK X W np e (.ex m) := by
  obtain ⟨t, p, s⟩ := h.ex
  refine ⟨t, p, fun Γ σ env τ stk G H Q hp r h => s Γ σ env τ stk G H Q hp r ?_⟩
  unfold evalK at h
  cases e : m env with
  | ok o e' =>
    simp only [e] at h
    exact fun v G' H' r' => h v G' H' r' trivial
  | exc x e' =>
    simp only [e] at h
    exact h
  | fail =>
    simp only [e] at h
    exact h
theorem da_nil : DA X W np [] [] := ⟨_, pa_nil, fun Γ σ env τ stk G H Q hp r h => h [] G H rfl r rfl⟩
theorem asnd_cons {t : TE} {ts : TA} {k : AK} {ks : List AK} (h1 : KSnd K mg W np t k) (h2 : ASnd K mg W np ts ks) : ASnd K mg W np (tCons t ts) (k :: ks) := by
  intro Γ σ env τ stk G H Q hp r h
  refine h1 Γ σ env τ stk G H _ hp r ?_
  unfold evalA at h
  cases e1 : evalK k env with
  | ok c e =>
    simp only [e1] at h
    intro v G1 H1 r1 n1
    refine h2 Γ σ e _ _ G1 H1 _ hp r1 ?_
    cases e2 : evalA ks e with
    | ok cs e' =>
      simp only [e2] at h
      intro vs G2 H2 hl r2 n2
      refine h (v :: vs) G2 H2 (congrArg (· + 1) hl) ?_ ⟨v, vs, rfl, n1, n2⟩
      exact R.rot r2 (by simp [hl])
    | exc x e' =>
      simp only [e2] at h
      exact fun c d G' H' r q => h c d G' H' r.pop1 q
    | fail =>
      simp only [e2] at h
      exact h
  | exc x e =>
    simp only [e1] at h
    exact h
  | fail =>
    simp only [e1] at h
    exact h
theorem asnd_nil : ASnd K mg W np tNil [] := fun Γ σ env τ stk G H Q hp r h => h [] G H rfl r rfl
theorem da_cons {e : Expr} {es : List Expr} {k : AK} {ks : List AK} (h1 : DK X W np e k) (h2 : DA X W np es ks) (hs : starEach (e :: es) X.env = (false, eval e X.env) :: starEach es X.env := by rfl) : DA X W np (e :: es) (k :: ks) := by
  obtain ⟨t, p, s⟩ := h1.ex
  obtain ⟨ts, q, u⟩ := h2.ex
  exact ⟨_, pa_cons p q (by exact hs), asnd_cons s u⟩
/-! ### what the operands are -/
def resK : AK → Option O → Env → Option O
  | .nm i, _, e => (e[i]?).join
  | .ex _, c, _ => c
def resA : List AK → List (Option O) → Env → Option (List O)
  | [], _, _ => some []
  | k :: ks, cs, e => match resK k (cs.headD none) e, resA ks cs.tail e with
    | some o, some os => some (o :: os)
    | _, _ => none
/-- values and what they stand for, one by one -/
inductive OAll (K : PySem.W.Frag) (G H : Hp) : List V → List O → Prop where
  | nil : OAll K G H [] []
  | cons {v : V} {o : O} {vs : List V} {os : List O} : (∃ f, ORep K G H v o f) → OAll K G H vs os → OAll K G H (v :: vs) (o :: os)
theorem oall_of {Γ : Ctx} {σ : St} {e : Env} {τ : List (Option V)} {stk : Env} {G H : Hp} : ∀ {ks : List AK} {vs : List V} {cs : List (Option O)} {os : List O} {pre : List (Option V)} {pres : Env}, pre.length = pres.length → R K Γ σ e (pre ++ (vs.map some ++ τ)) (pres ++ (cs ++ stk)) G H → cs.length = vs.length → areNm ks σ vs → resA ks cs e = some os → OAll K G H vs os
  | [], vs, cs, os, _, _, _, r, hl, hn, hr => by
    cases hn
    cases hr
    exact .nil
  | k :: ks, ws, [], os, _, _, _, r, hl, hn, hr => by
    obtain ⟨v, vs, e, n1, n2⟩ := hn
    subst e
    cases hl
  | k :: ks, ws, c :: cs, os, pre, pres, hpl, r, hl, hn, hr => by
    obtain ⟨v, vs, e, n1, n2⟩ := hn
    subst e
    unfold resA at hr
    split at hr
    · rename_i o os' h1 h2
      cases hr
      refine .cons ?_ (oall_of (pre := pre ++ [some v]) (pres := pres ++ [c]) (by simp [hpl]) (by simpa using r) (Nat.succ.inj hl) n2 h2)
      cases k with
      | nm i =>
        have h1' : (e[i]?).join = some o := h1
        have h1'' : e[i]? = some (some o) := by
          cases q : e[i]? with
          | none => rw [q] at h1'; cases h1'
          | some z => rw [q] at h1'; exact congrArg some h1'
        obtain ⟨v', f, e1, q⟩ := r.slot h1''
        have e2 : σ[i]? = some (some v) := n1
        rw [e1] at e2
        cases e2
        exact ⟨f, q⟩
      | ex m =>
        have h1' : c = some o := h1
        subst h1'
        have r' : R K Γ σ e (some v :: (pre ++ (vs.map some ++ τ))) (some o :: (pres ++ (cs ++ stk))) G H := R.rot (by simpa using r) hpl
        exact r'.top
    · cases hr
/-! ### an operation upon operands -/
/-- op: what is pushed; r: the reading by values -/
def OpS (K : PySem.W.Frag) (r : List V → Hp → VK → Prop) (op : List O → Option O) : Prop := ∀ (Γ : Ctx) (σ : St) (e : Env) (τ : List (Option V)) (stk : Env) (G H : Hp) (vs : List V) (os : List O) (o : O) (Q : VK),
  R K Γ σ e τ stk G H → OAll K G H vs os → op os = some o → (∀ v G' H', R K Γ σ e (some v :: τ) (some o :: stk) G' H' → Q v H') → r vs H Q
def mOp (op : List O → Option O) (ks : List AK) : ME := fun env => match evalA ks env with
  | .ok cs e => match resA ks cs e with
    | some os => match op os with
      | some o => .ok o e
      | none => .fail
    | none => .fail
  | .exc x e => .exc x e
  | .fail => .fail
theorem esnd_op {t : TA} {ks : List AK} {r : List V → Hp → VK → Prop} {op : List O → Option O} (h1 : ASnd K mg W np t ks) (h2 : OpS K r op) : ESnd K mg W np (fun σ H Q => t σ H fun vs H1 => r vs H1 Q) (mOp op ks) := by
  intro Γ σ env τ stk G H Q hp r h
  refine h1 Γ σ env τ stk G H _ hp r ?_
  unfold mOp at h
  cases e1 : evalA ks env with
  | ok cs e =>
    simp only [e1] at h
    intro vs G1 H1 hl r1 n1
    cases e2 : resA ks cs e with
    | none =>
      simp only [e2] at h
      exact h.elim
    | some os =>
      simp only [e2] at h
      cases e3 : op os with
      | none =>
        simp only [e3] at h
        exact h.elim
      | some o =>
        simp only [e3] at h
        refine h2 Γ σ e _ _ G1 H1 vs os o Q r1 (oall_of (pre := []) (pres := []) rfl r1 hl n1 e2) e3 fun v G' H' r' => h v G' H' (R.dropMid (by simp [hl]) r')
  | exc x e =>
    simp only [e1] at h
    exact h
  | fail =>
    simp only [e1] at h
    exact h
/-- a value of no address -/
def atom : D → Option V
  | .non => some .non
  | .bl b => some (.bl b)
  | .int i => some (.int i)
  | .str s => some (.str s)
  | _ => none
theorem rep_atom {G : Hp} {x : D} {v : V} (h : atom x = some v) : Rep K G v x := by
  cases x <;> cases h
  · exact .non
  · exact .bl _
  · exact .int _
  · exact .str _
/-- an operation whose outcome is of no address -/
theorem ops_atom {r : List V → Hp → VK → Prop} {op : List O → Option D} (h : ∀ (G H : Hp) (vs : List V) (os : List O) (x : D) (Q : VK), Sub G H → OAll K G H vs os → op os = some x → ∃ v, atom x = some v ∧ (Q v H → r vs H Q)) : OpS K r (fun os => (op os).map O.d) := by
  intro Γ σ e τ stk G H vs os o Q rr ha ho k
  cases q : op os with
  | none => simp [q] at ho
  | some x =>
    simp [q] at ho
    subst ho
    obtain ⟨v, hv, hr⟩ := h G H vs os x Q rr.wd.sub ha q
    exact hr (k v G H (rr.pushD (rep_atom hv)))
end
end Dn
end
section
set_option Elab.async false
set_option linter.all false
set_option maxRecDepth 100000
set_option maxHeartbeats 4000000
/-! Dn2: expressions. -/
namespace Dn
open PySem PySem.Spec L2
open PyProof.Rows hiding St
/-! ### names, constants -/
def mC (x : D) : ME := fun e => .ok (.d x) e
/-- a name that is read: what it holds stays from now on -/
def mN (i : Nat) : ME := fun e => match e[i]? with
  | some (some (.d x)) => .ok (.d x) e
  | some (some (.l os)) => .ok (.d (.lst (frzs os))) (e.set i (some (.d (.lst (frzs os)))))
  | _ => .fail
/-- a name that is read for the last time -/
def mMv (i : Nat) : ME := fun e => match e[i]? with
  | some (some (.d x)) => .ok (.d x) e
  | some (some (.l os)) => .ok (.l os) (e.set i none)
  | some (some (.t xs)) => .ok (.t xs) (e.set i none)
  | _ => .fail
section
variable {X : Cx} {W : WX} {np : Asm} {K : PySem.W.Frag} {mg : Str → Option Value}
theorem esnd_c {v : V} {x : D} (h : atom x = some v) : ESnd K mg W np (tC v) (mC x) := fun Γ σ env τ stk G H Q hp r k => k v G H (r.pushD (rep_atom h))
theorem de_int {i : Int} {j pos} : DE X W np (.Constant (.int i) j pos) (mC (.int i)) := ⟨_, pe_int, esnd_c rfl⟩
theorem de_bl {b : Bool} {j pos} : DE X W np (.Constant (.bool b) j pos) (mC (.bl b)) := ⟨_, pe_bl, esnd_c rfl⟩
theorem de_non {j pos} : DE X W np (.Constant .none j pos) (mC .non) := ⟨_, pe_non, esnd_c rfl⟩
theorem de_str {x : Str} {j pos} : DE X W np (.Constant (.str x) j pos) (mC (.str x)) := ⟨_, pe_str, esnd_c rfl⟩
theorem R.dup {Γ : Ctx} {σ : St} {env : Env} {τ : List (Option V)} {stk : Env} {G H : Hp} {i : Nat} {v : V} {x : D} (r : R K Γ σ env (some v :: τ) (some (.d x) :: stk) G H) (h : σ[i]? = some (some v)) : R K Γ σ (env.set i (some (.d x))) (some v :: τ) (some (.d x) :: stk) G H :=
  (r.back h).pushD r.topD
theorem esnd_n (i : Nat) : ESnd K mg W np (tVar i) (mN i) := by
  intro Γ σ env τ stk G H Q hp r h
  unfold mN at h
  split at h
  · rename_i x he
    obtain ⟨v, e, q⟩ := r.slotD he
    exact ⟨v, e, h v G H (r.pushD q)⟩
  · rename_i os he
    obtain ⟨v, e, r1⟩ := r.move he
    obtain ⟨G', r2⟩ := r1.frz
    have r3 := r2.dup e
    rw [List.set_set] at r3
    exact ⟨v, e, h v G' H r3⟩
  · exact False.elim h
theorem esnd_mv (i : Nat) : ESnd K mg W np (tVar i) (mMv i) := by
  intro Γ σ env τ stk G H Q hp r h
  unfold mMv at h
  split at h
  · rename_i x he
    obtain ⟨v, e, q⟩ := r.slotD he
    exact ⟨v, e, h v G H (r.pushD q)⟩
  · rename_i os he
    obtain ⟨v, e, r1⟩ := r.move he
    exact ⟨v, e, h v G H r1⟩
  · rename_i xs he
    obtain ⟨v, e, r1⟩ := r.move he
    exact ⟨v, e, h v G H r1⟩
  · exact False.elim h
theorem de_n (i : Nat) {x : Str} {pos : Pos} (hN : X.N[i]? = some x := by rfl) (hv : Vis X.env.scope x := by first | exact Or.inl rfl | exact Or.inr (Or.inl rfl) | exact Or.inr (Or.inr rfl)) (hd : (x == ("__debug__" : Str)) = false := by decide)
    (hcd : (x == ("__classdict__" : Str)) = false := by decide) : DE X W np (.Name x pos) (mN i) := ⟨_, pe_var (i := i) hN hv hd hcd, esnd_n i⟩
theorem de_mv (i : Nat) {x : Str} {pos : Pos} (hN : X.N[i]? = some x := by rfl) (hv : Vis X.env.scope x := by first | exact Or.inl rfl | exact Or.inr (Or.inl rfl) | exact Or.inr (Or.inr rfl)) (hd : (x == ("__debug__" : Str)) = false := by decide)
    (hcd : (x == ("__classdict__" : Str)) = false := by decide) : DE X W np (.Name x pos) (mMv i) := ⟨_, pe_var (i := i) hN hv hd hcd, esnd_mv i⟩
/-! ### operators -/
def r2 (r : R2) : List V → Hp → VK → Prop
  | [x, y] => r x y
  | _ => fun _ _ => False
def r1 (r : V → Hp → VK → Prop) : List V → Hp → VK → Prop
  | [x] => r x
  | _ => fun _ _ => False
theorem asnd2 {ta tb : TE} {k1 k2 : AK} (h1 : KSnd K mg W np ta k1) (h2 : KSnd K mg W np tb k2) : ASnd K mg W np (tCons ta (tCons tb tNil)) [k1, k2] := asnd_cons h1 (asnd_cons h2 asnd_nil)
theorem esnd_op2 {ta tb : TE} {k1 k2 : AK} {r : R2} {f : List O → Option O} (h1 : KSnd K mg W np ta k1) (h2 : KSnd K mg W np tb k2) (hs : OpS K (r2 r) f) : ESnd K mg W np (tOp r ta tb) (mOp f [k1, k2]) :=
  esnd_op (asnd2 h1 h2) hs
theorem de_bin {op : Operator} {r : R2} {f : List O → Option O} {a b : Expr} {pos : Pos} {k1 k2 : AK} (ho : OpR X (binaryOp op) r) (hs : OpS X.K (r2 r) f) (ha : DK X W np a k1) (hb : DK X W np b k2) : DE X W np (.BinOp a op b pos) (mOp f [k1, k2]) := by
  obtain ⟨ta, p, s⟩ := ha.ex
  obtain ⟨tb, q, u⟩ := hb.ex
  exact ⟨_, pe_op ho p q, esnd_op2 s u hs⟩
theorem de_cmp {op : CmpOp} {r : R2} {f : List O → Option O} {a b : Expr} {pos : Pos} {k1 k2 : AK} (ho : OpR X (compareOp op) r) (hs : OpS X.K (r2 r) f) (ha : DK X W np a k1) (hb : DK X W np b k2) (hm : behindInMarks op b = false := by first | exact nobehind _ (by decide) (by decide) | rfl) : DE X W np (.Compare a [op] [b] pos) (mOp f [k1, k2]) := by
  obtain ⟨ta, p, s⟩ := ha.ex
  obtain ⟨tb, q, u⟩ := hb.ex
  exact ⟨_, pe_cmpR ho p q hm, esnd_op2 s u hs⟩
theorem de_ix {r : R2} {f : List O → Option O} {a b : Expr} {pos : Pos} {k1 k2 : AK} (ho : IxR X r) (hs : OpS X.K (r2 r) f) (ha : DK X W np a k1) (hb : DK X W np b k2) (hp : PlainIx b := by exact fun _ _ => rfl) : DE X W np (.Subscript a b pos) (mOp f [k1, k2]) := by
  obtain ⟨ta, p, s⟩ := ha.ex
  obtain ⟨tb, q, u⟩ := hb.ex
  exact ⟨_, pe_ix ho p q hp, esnd_op2 s u hs⟩
theorem de_un {op : UnaryOp} {r : V → Hp → VK → Prop} {f : List O → Option O} {a : Expr} {pos : Pos} {k1 : AK} (ho : UnR X (unaryOp op) r) (hs : OpS X.K (r1 r) f) (ha : DK X W np a k1) : DE X W np (.UnaryOp op a pos) (mOp f [k1]) := by
  obtain ⟨ta, p, s⟩ := ha.ex
  exact ⟨_, pe_un ho p, esnd_op (r := r1 r) (asnd_cons s asnd_nil) hs⟩
theorem de_callB {id : String} {r : List V → Hp → VK → Prop} {f : List O → Option O} {x : Str} {e : Expr} {es : List Expr} {p pos : Pos} {ks : List AK} (hc : CallR X (.builtin id) r) (hs : OpS X.K r f) (hm : X.mg x = none) (ha : DA X W np (e :: es) ks) (hv : bootBuiltins x = some (.builtin id) := by decide +kernel) (hg : Gl X x := by rfl)
    (hn : x ≠ "__name__" := by decide) (hdb : (x == ("__debug__" : Str)) = false := by decide) (he : starEach (e :: es) X.env = (false, eval e X.env) :: starEach es X.env := by rfl) (hpl : (backTo pos (starEach es X.env)).any (·.1) = false := by rfl) : DE X W np (.Call (.Name x p) (e :: es) [] pos) (mOp f ks) := by
  obtain ⟨t, q, s⟩ := ha.ex
  exact ⟨_, pe_callB hc hg hm hv q hn hdb (by exact he) (by exact hpl), esnd_op s hs⟩
theorem de_callTy {T : String} {r : List V → Hp → VK → Prop} {f : List O → Option O} {x : Str} {e : Expr} {es : List Expr} {p pos : Pos} {ks : List AK} (hc : CallR X (.type T) r) (hs : OpS X.K r f) (hm : X.mg x = none) (ha : DA X W np (e :: es) ks) (hv : bootBuiltins x = some (.type T) := by decide +kernel) (hg : Gl X x := by rfl)
    (hn : x ≠ "__name__" := by decide) (hdb : (x == ("__debug__" : Str)) = false := by decide) (he : starEach (e :: es) X.env = (false, eval e X.env) :: starEach es X.env := by rfl) (hpl : (backTo pos (starEach es X.env)).any (·.1) = false := by rfl) : DE X W np (.Call (.Name x p) (e :: es) [] pos) (mOp f ks) := by
  obtain ⟨t, q, s⟩ := ha.ex
  exact ⟨_, pe_callTy hc hg hm hv q hn hdb (by exact he) (by exact hpl), esnd_op s hs⟩
/-! ### operations by values: ints -/
def asI : O → Option Int
  | .d (.int i) => some i
  | _ => none
theorem orep_int {G H : Hp} {v : V} {o : O} {i : Int} (h : ∃ f, ORep K G H v o f) (e : asI o = some i) : v = .int i := by
  obtain ⟨f, h⟩ := h
  cases h with
  | d h =>
    cases h <;> first | cases e; rfl | cases e
  | l => cases e
  | t => cases e
def fI2 (C : Int → Int → Bool) (g : Int → Int → D) : List O → Option O
  | [a, b] => match asI a, asI b with
    | some i, some j => if C i j then some (.d (g i j)) else none
    | _, _ => none
  | _ => none
theorem ops_I2 {C : Int → Int → Bool} {r : R2} {g : Int → Int → V} {gd : Int → Int → D} (hr : ∀ i j H Q, C i j = true → Q (g i j) H → r (.int i) (.int j) H Q) (hg : ∀ i j, C i j = true → atom (gd i j) = some (g i j)) : OpS K (r2 r) (fI2 C gd) := by
  intro Γ σ e τ stk G H vs os o Q rr ha ho k
  match ha with
  | .nil => cases ho
  | .cons _ .nil => cases ho
  | .cons _ (.cons _ (.cons _ _)) => cases ho
  | @OAll.cons _ _ _ v a _ _ h1 (@OAll.cons _ _ _ w b _ _ h2 .nil) =>
    simp only [fI2] at ho
    split at ho
    · rename_i i j ei ej
      split at ho
      · rename_i hc
        cases ho
        have e1 := orep_int h1 ei
        have e2 := orep_int h2 ej
        subst e1 e2
        exact hr i j H Q hc (k _ G H (rr.pushD (rep_atom (hg i j hc))))
      · cases ho
    · cases ho
def tt2 (_ _ : Int) : Bool := true
abbrev oAdd := fI2 tt2 fun i j => .int (i + j)
abbrev oSub := fI2 tt2 fun i j => .int (i - j)
def CMulA (i j : Int) : Prop := CMulW i j ∨ CMul i j
theorem op_mulA {X : Cx} : OpR X (binaryOp .Mult) (rI CMulA fun i j => .int (i * j)) := opI fun _ _ _ _ _ _ _ hc q => mul_int q (hc.elim CMulW.ok CMul.ok)
def cMul (i j : Int) : Bool := decide (i.natAbs.log2 + j.natAbs.log2 < 1000000) || (decide (-(2 ^ 64) < i ∧ i < 2 ^ 64) || decide (-(2 ^ 64) < j ∧ j < 2 ^ 64))
theorem cMul_of {i j : Int} (h : cMul i j = true) : CMulA i j := by
  unfold cMul at h
  rcases Bool.or_eq_true_iff.mp h with h | h
  · exact .inl (of_decide_eq_true (p := i.natAbs.log2 + j.natAbs.log2 < 1000000) h)
  · rcases Bool.or_eq_true_iff.mp h with h | h
    · exact .inr (.inl (of_decide_eq_true h))
    · exact .inr (.inr (of_decide_eq_true h))
abbrev oMul := fI2 cMul fun i j => .int (i * j)
def cDiv (_ j : Int) : Bool := decide (0 < j ∧ j.natAbs.log2 < 9000)
abbrev oDiv := fI2 cDiv fun i j => .int (i / j)
def cMod (_ j : Int) : Bool := decide (0 < j)
abbrev oMod := fI2 cMod fun i j => .int (i % j)
def cShr (_ j : Int) : Bool := decide (0 ≤ j)
abbrev oShr := fI2 cShr fun i j => .int (i / 2 ^ j.toNat)
def cShl (i j : Int) : Bool := decide (0 ≤ j ∧ j ≤ 1000000 ∧ i.natAbs < 2 ^ 64)
abbrev oShl := fI2 cShl fun i j => .int (i * 2 ^ j.toNat)
abbrev oPow := fI2 cShl fun i j => .int (i ^ j.toNat)
abbrev oAnd := fI2 tt2 fun i j => .int (Builtin.bitAnd i j)
abbrev oLt := fI2 tt2 fun i j => .bl (decide (i < j))
abbrev oLe := fI2 tt2 fun i j => .bl (decide (i ≤ j))
abbrev oGt := fI2 tt2 fun i j => .bl (decide (j < i))
abbrev oGe := fI2 tt2 fun i j => .bl (decide (j ≤ i))
theorem s_add : OpS K (r2 (rI0 fun i j => .int (i + j))) oAdd := ops_I2 (fun i j H Q _ q => ⟨i, j, rfl, rfl, q⟩) fun _ _ _ => rfl
theorem s_sub : OpS K (r2 (rI0 fun i j => .int (i - j))) oSub := ops_I2 (fun i j H Q _ q => ⟨i, j, rfl, rfl, q⟩) fun _ _ _ => rfl
theorem s_mul : OpS K (r2 (rI CMulA fun i j => .int (i * j))) oMul := ops_I2 (fun i j H Q c q => ⟨i, j, rfl, rfl, cMul_of c, q⟩) fun _ _ _ => rfl
theorem s_div : OpS K (r2 (rI CDivW fun i j => .int (i / j))) oDiv := ops_I2 (fun i j H Q c q => ⟨i, j, rfl, rfl, of_decide_eq_true (p := 0 < j ∧ j.natAbs.log2 < 9000) c, q⟩) fun _ _ _ => rfl
theorem s_mod : OpS K (r2 (rI (fun _ j => j ≠ 0) fun i j => .int (i.fmod j))) oMod := ops_I2 (g := fun i j => .int (i % j)) (fun i j H Q c q => by
  have c' : 0 < j := of_decide_eq_true c
  refine ⟨i, j, rfl, rfl, by omega, ?_⟩
  show Q (V.int (i.fmod j)) H
  rw [Int.fmod_eq_emod_of_nonneg i (by omega : 0 ≤ j)]
  exact q) fun _ _ _ => rfl
theorem s_shr : OpS K (r2 (rI (fun _ j => 0 ≤ j) fun i j => .int (i / 2 ^ j.toNat))) oShr := ops_I2 (fun i j H Q c q => ⟨i, j, rfl, rfl, of_decide_eq_true c, q⟩) fun _ _ _ => rfl
theorem s_shl : OpS K (r2 (rI CPow fun i j => .int (i * 2 ^ j.toNat))) oShl := ops_I2 (fun i j H Q c q => ⟨i, j, rfl, rfl, of_decide_eq_true (p := 0 ≤ j ∧ j ≤ 1000000 ∧ i.natAbs < 2 ^ 64) c, q⟩) fun _ _ _ => rfl
theorem s_pow : OpS K (r2 (rI CPow fun i j => .int (i ^ j.toNat))) oPow := ops_I2 (fun i j H Q c q => ⟨i, j, rfl, rfl, of_decide_eq_true (p := 0 ≤ j ∧ j ≤ 1000000 ∧ i.natAbs < 2 ^ 64) c, q⟩) fun _ _ _ => rfl
theorem s_and : OpS K (r2 (rI0 fun i j => .int (Builtin.bitAnd i j))) oAnd := ops_I2 (fun i j H Q _ q => ⟨i, j, rfl, rfl, q⟩) fun _ _ _ => rfl
theorem s_lt : OpS K (r2 (rI0 fun i j => .bl (decide (i < j)))) oLt := ops_I2 (fun i j H Q _ q => ⟨i, j, rfl, rfl, q⟩) fun _ _ _ => rfl
theorem s_le : OpS K (r2 (rI0 fun i j => .bl (decide (i ≤ j)))) oLe := ops_I2 (fun i j H Q _ q => ⟨i, j, rfl, rfl, q⟩) fun _ _ _ => rfl
theorem s_gt : OpS K (r2 (rI0 fun i j => .bl (decide (j < i)))) oGt := ops_I2 (fun i j H Q _ q => ⟨i, j, rfl, rfl, q⟩) fun _ _ _ => rfl
theorem s_ge : OpS K (r2 (rI0 fun i j => .bl (decide (j ≤ i)))) oGe := ops_I2 (fun i j H Q _ q => ⟨i, j, rfl, rfl, q⟩) fun _ _ _ => rfl
def oNeg : List O → Option O
  | [a] => (asI a).map fun i => .d (.int (-i))
  | _ => none
theorem s_neg : OpS K (r1 (rU fun i => .int (-i))) oNeg := by
  intro Γ σ e τ stk G H vs os o Q rr ha ho k
  match ha with
  | .nil => cases ho
  | .cons _ (.cons _ _) => cases ho
  | @OAll.cons _ _ _ v a _ _ h1 .nil =>
    cases ei : asI a with
    | none => simp [oNeg, ei] at ho
    | some i =>
      simp [oNeg, ei] at ho
      subst ho
      have e1 := orep_int h1 ei
      subst e1
      exact ⟨i, rfl, k _ G H (rr.pushD (rep_atom rfl))⟩
/-! ### None, ==, isinstance -/
def isN : O → Bool
  | .d .non => true
  | _ => false
theorem orep_non {G H : Hp} {v : V} {o : O} (h : ∃ f, ORep K G H v o f) : decide (v = .non) = isN o := by
  obtain ⟨f, h⟩ := h
  cases h with
  | d h => cases h <;> rfl
  | l => rfl
  | t => rfl
def oIsN (neg : Bool) : List O → Option O
  | [a, .d .non] => some (.d (.bl (if neg then !isN a else isN a)))
  | _ => none
theorem s_isN : OpS K (r2 (fun x y H Q => y = .non ∧ Q (.bl (decide (x = .non))) H)) (oIsN false) := by
  intro Γ σ e τ stk G H vs os o Q rr ha ho k
  match ha with
  | .nil => cases ho
  | .cons _ .nil => cases ho
  | .cons _ (.cons _ (.cons _ _)) => simp [oIsN] at ho
  | @OAll.cons _ _ _ v a _ _ h1 (@OAll.cons _ _ _ w b _ _ h2 .nil) =>
    have hb : b = .d .non := by
      unfold oIsN at ho
      split at ho
      · rename_i h
        cases h
        rfl
      · cases ho
    subst hb
    simp [oIsN] at ho
    subst ho
    obtain ⟨f, h2⟩ := h2
    cases h2 with
    | d h2 =>
      cases h2
      refine ⟨rfl, ?_⟩
      rw [orep_non h1]
      exact k _ G H (rr.pushD (.bl _))
theorem s_notN : OpS K (r2 (fun x y H Q => y = .non ∧ Q (.bl (!decide (x = .non))) H)) (oIsN true) := by
  intro Γ σ e τ stk G H vs os o Q rr ha ho k
  match ha with
  | .nil => cases ho
  | .cons _ .nil => cases ho
  | .cons _ (.cons _ (.cons _ _)) => simp [oIsN] at ho
  | @OAll.cons _ _ _ v a _ _ h1 (@OAll.cons _ _ _ w b _ _ h2 .nil) =>
    have hb : b = .d .non := by
      unfold oIsN at ho
      split at ho
      · rename_i h
        cases h
        rfl
      · cases ho
    subst hb
    simp [oIsN] at ho
    subst ho
    obtain ⟨f, h2⟩ := h2
    cases h2 with
    | d h2 =>
      cases h2
      refine ⟨rfl, ?_⟩
      rw [orep_non h1]
      exact k _ G H (rr.pushD (.bl _))
mutual
def pd : D → PyData
  | .non => .none
  | .bl b => .bool b
  | .int i => .int i
  | .str s => .str s
  | .tup xs => .tuple (pds xs)
  | .lst xs => .list (pds xs)
  | .scr xs => .list (pds xs)
def pds : List D → List PyData
  | [] => []
  | x :: r => pd x :: pds r
end
mutual
theorem Rep.dp {G H : Hp} (e : Sub G H) : ∀ {v : V} {x : D}, Rep K G v x → Dp K H v (pd x)
  | _, _, .non => .non
  | _, _, .bl b => .bl b
  | _, _, .int b => .int b
  | _, _, .str b => .str b
  | _, _, .tup h r => .tup (e.sqT h) (Reps.dp e r)
  | _, _, .lst h r => .lst (.inl (.inl (e _ _ h))) (Reps.dp e r)
  | _, _, .scr h r => .lst (e.sqL h) (Reps.dp e r)
theorem Reps.dp {G H : Hp} (e : Sub G H) : ∀ {v : List V} {x : List D}, Reps K G v x → DpAll K H v (pds x)
  | _, _, .nil => .nil
  | _, _, .cons h r => .cons (Rep.dp e h) (Reps.dp e r)
end
mutual
theorem ORep.dp {G H : Hp} (e : Sub G H) : ∀ {v : V} {o : O} {f : List Addr}, ORep K G H v o f → Dp K H v (pd (frz o))
  | _, _, _, .d r => r.dp e
  | _, _, _, .t h g r => .tup (.inl (.inr ⟨_, e _ _ h⟩)) (r.dp e)
  | _, _, _, .l h g r => .lst (.inl (.inl h)) (OReps.dp e r)
theorem OReps.dp {G H : Hp} (e : Sub G H) : ∀ {v : List V} {o : List O} {f : List Addr}, OReps K G H v o f → DpAll K H v (pds (frzs o))
  | _, _, _, .nil => .nil
  | _, _, _, .cons h r => .cons (ORep.dp e h) (OReps.dp e r)
end
/-- == of data -/
def deq (x y : D) : Bool := PyData.eqv (pd x) (pd y)
def oEq (neg : Bool) : List O → Option O
  | [a, b] => if SeqAt.shaped (pd (frz a)) && SeqAt.shaped (pd (frz b)) then some (.d (.bl (if neg then !deq (frz a) (frz b) else deq (frz a) (frz b)))) else none
  | _ => none
theorem s_eq : OpS K (r2 (rEqD K)) (oEq false) := by
  intro Γ σ e τ stk G H vs os o Q rr ha ho k
  match ha with
  | .nil => simp [oEq] at ho
  | .cons _ .nil => simp [oEq] at ho
  | .cons _ (.cons _ (.cons _ _)) => simp [oEq] at ho
  | @OAll.cons _ _ _ v a _ _ h1 (@OAll.cons _ _ _ w b _ _ h2 .nil) =>
    by_cases hc : (SeqAt.shaped (pd (frz a)) && SeqAt.shaped (pd (frz b))) = true
    · simp only [oEq] at ho
      rw [if_pos hc] at ho
      cases ho
      obtain ⟨f, h1⟩ := h1
      obtain ⟨g, h2⟩ := h2
      obtain ⟨c1, c2⟩ := Bool.and_eq_true_iff.mp hc
      exact ⟨_, _, h1.dp rr.wd.sub, h2.dp rr.wd.sub, c1, c2, k _ G H (rr.pushD (.bl _))⟩
    · simp only [oEq] at ho
      rw [if_neg hc] at ho
      cases ho
theorem s_ne : OpS K (r2 (rNeD K)) (oEq true) := by
  intro Γ σ e τ stk G H vs os o Q rr ha ho k
  match ha with
  | .nil => simp [oEq] at ho
  | .cons _ .nil => simp [oEq] at ho
  | .cons _ (.cons _ (.cons _ _)) => simp [oEq] at ho
  | @OAll.cons _ _ _ v a _ _ h1 (@OAll.cons _ _ _ w b _ _ h2 .nil) =>
    by_cases hc : (SeqAt.shaped (pd (frz a)) && SeqAt.shaped (pd (frz b))) = true
    · simp only [oEq] at ho
      rw [if_pos hc] at ho
      cases ho
      obtain ⟨f, h1⟩ := h1
      obtain ⟨g, h2⟩ := h2
      obtain ⟨c1, c2⟩ := Bool.and_eq_true_iff.mp hc
      exact ⟨_, _, h1.dp rr.wd.sub, h2.dp rr.wd.sub, c1, c2, k _ G H (rr.pushD (.bl _))⟩
    · simp only [oEq] at ho
      rw [if_neg hc] at ho
      cases ho
/-- the name of a value's class -/
def tyN : O → String
  | .d .non => "NoneType"
  | .d (.bl _) => "bool"
  | .d (.int _) => "int"
  | .d (.str _) => "str"
  | .d (.tup _) => "tuple"
  | .d (.lst _) => "list"
  | .d (.scr _) => "list"
  | .l _ => "list"
  | .t _ => "tuple"
theorem sqT_ty {H : Hp} {a : Addr} {vs : List V} (h : SqT K H a vs) : TyX K H (.ref a) (.type "tuple") := by
  rcases h with (h | ⟨o, h⟩) | ⟨o, its, n, h, c, _⟩
  · exact .base (.tup h)
  · exact .fTuple h
  · exact .kTuple h c
theorem sqL_ty {H : Hp} {a : Addr} {vs : List V} (h : SqL K H a vs) : TyX K H (.ref a) (.type "list") := by
  rcases h with (h | ⟨o, h⟩) | ⟨o, its, n, h, c, _⟩
  · exact .base (.lst h)
  · exact .base (.frz h)
  · exact .kList h c
theorem orep_ty {G H : Hp} (e : Sub G H) {v : V} {o : O} (h : ∃ f, ORep K G H v o f) : TyX K H v (.type (tyN o)) := by
  obtain ⟨f, h⟩ := h
  cases h with
  | d h =>
    cases h with
    | non => exact .base .non
    | bl b => exact .base (.bl b)
    | int b => exact .base (.int b)
    | str b => exact .base (.str b)
    | tup h r => exact sqT_ty (e.sqT h)
    | lst h r => exact sqL_ty (.inl (.inl (e _ _ h)))
    | scr h r => exact sqL_ty (e.sqL h)
  | l h g r => exact sqL_ty (.inl (.inl h))
  | t h g r => exact sqT_ty (.inl (.inr ⟨_, e _ _ h⟩))
/-- isinstance(x, T), T a built-in class by its name -/
def oIsi (T : String) : List O → Option O
  | [a] => (kitB (tyN a) T).map fun b => .d (.bl b)
  | _ => none
def rIsi1 (K : PySem.W.Frag) (T : String) : List V → Hp → VK → Prop
  | [x] => fun H Q => rIsi K [x, .ty T] H Q
  | _ => fun _ _ => False
theorem s_isi {T : String} : OpS K (rIsi1 K T) (oIsi T) := by
  intro Γ σ e τ stk G H vs os o Q rr ha ho k
  match ha with
  | .nil => cases ho
  | .cons _ (.cons _ _) => cases ho
  | @OAll.cons _ _ _ v a _ _ h1 .nil =>
    cases eb : kitB (tyN a) T with
    | none => simp [oIsi, eb] at ho
    | some b =>
      simp [oIsi, eb] at ho
      subst ho
      exact ⟨v, .ty T, _, _, b, rfl, .ty T, orep_ty rr.wd.sub h1, kit_ty eb, k _ G H (rr.pushD (.bl b))⟩
theorem de_isi {x : Str} {a : Expr} {T : String} {p q pos : Pos} {k : AK} (hi : X.mg "isinstance" = none) (hx : X.mg x = none) (ha : DK X W np a k) (hv : bootBuiltins x = some (.type T) := by decide +kernel) (hg : Gl X "isinstance" := by rfl) (hgx : Gl X x := by rfl) (hn : x ≠ "__name__" := by decide) (hdb : (x == ("__debug__" : Str)) = false := by decide)
    (he : starEach [a, .Name x q] X.env = (false, eval a X.env) :: starEach [.Name x q] X.env := by rfl) (he2 : starEach [.Name x q] X.env = (false, eval (.Name x q) X.env) :: starEach [] X.env := by rfl) (hpl : (backTo pos (starEach [.Name x q] X.env)).any (·.1) = false := by rfl) :
    DE X W np (.Call (.Name "isinstance" p) [a, .Name x q] [] pos) (mOp (oIsi T) [k]) := by
  obtain ⟨t, pe, s⟩ := ha.ex
  refine ⟨_, pe_callB (r := rIsi X.K) call_isi hg hi (by decide +kernel) (pa_cons pe (pa_cons (pe_bltn (v := .ty T) hgx hx hv rfl hn hdb) pa_nil (by exact he2)) (by exact he)) (by decide) (by decide) (by exact he) (by exact hpl), ?_⟩
  exact esnd_op (r := rIsi1 X.K T) (asnd_cons s asnd_nil) s_isi
end
end Dn
end
section
set_option Elab.async false
set_option linter.all false
set_option maxRecDepth 100000
set_option maxHeartbeats 4000000
/-! Dn3: and, or, not, tests, displays, items, slices, built-ins upon lists and tuples. -/
namespace Dn
open PySem PySem.Spec L2
open PyProof.Rows hiding St
section
variable {X : Cx} {W : WX} {np : Asm} {K : PySem.W.Frag} {mg : Str → Option Value}
/-! ### and, or, not -/
/-- on: a bool goes on by k -/
def onB (r : Rs O) (k : Bool → Env → Rs O) : Rs O := match r with
  | .ok (.d (.bl c)) e => k c e
  | .ok _ _ => .fail
  | .exc x e => .exc x e
  | .fail => .fail
def mAnd (a b : ME) : ME := fun e => onB (a e) fun c e1 => if c then b e1 else .ok (.d (.bl false)) e1
def mOr (a b : ME) : ME := fun e => onB (a e) fun c e1 => if c then .ok (.d (.bl true)) e1 else b e1
def mNot (a : ME) : ME := fun e => onB (a e) fun c e1 => .ok (.d (.bl (!c))) e1
theorem R.topB {Γ : Ctx} {σ : St} {env : Env} {τ : List (Option V)} {stk : Env} {G H : Hp} {v : V} {c : Bool} (r : R K Γ σ env (some v :: τ) (some (.d (.bl c)) :: stk) G H) : v = .bl c := by
  have h := r.topD
  cases h
  rfl
theorem RsQ.onB {Γ : Ctx} {σ : St} {τ : List (Option V)} {stk : Env} {P : O → Env → Prop} {r : Rs O} {k : Bool → Env → Rs O} (h : RsQ K mg Γ W σ τ stk P (Dn.onB r k)) : RsQ K mg Γ W σ τ stk (fun o e => ∃ c, o = .d (.bl c) ∧ RsQ K mg Γ W σ τ stk P (k c e)) r := by
  cases r with
  | ok o e =>
    unfold Dn.onB at h
    split at h
    · rename_i c e1 he
      cases he
      exact ⟨c, rfl, h⟩
    · exact False.elim h
    · rename_i he
      cases he
    · rename_i he
      cases he
  | exc x e => exact h
  | fail => exact h
theorem RsQ.imp {α : Type} {Γ : Ctx} {σ : St} {τ : List (Option V)} {stk : Env} {P P' : α → Env → Prop} {r : Rs α} (h : RsQ K mg Γ W σ τ stk P r) (k : ∀ a e, P a e → P' a e) : RsQ K mg Γ W σ τ stk P' r := by
  cases r with
  | ok o e => exact k o e h
  | exc x e => exact h
  | fail => exact h
theorem de_not {a : Expr} {pos : Pos} {m : ME} (h : DE X W np a m) : DE X W np (.UnaryOp .Not a pos) (mNot m) := by
  obtain ⟨t, p, s⟩ := h.ex
  refine ⟨_, pe_not p, fun Γ σ env τ stk G H Q hp r h => s Γ σ env τ stk G H _ hp r (h.onB.imp fun o e ⟨c, eo, q⟩ v G' H' r' => ?_)⟩
  subst eo
  obtain rfl := r'.topB
  exact ⟨c, rfl, q _ G' H' (r'.pop.pushD (.bl _))⟩
theorem de_and {a b : Expr} {rest : List Expr} {pos : Pos} {m n : ME} (h : DE X W np a m) (g : DE X W np (.BoolOp .And (b :: rest) pos) n) : DE X W np (.BoolOp .And (a :: b :: rest) pos) (mAnd m n) := by
  obtain ⟨t, p, s⟩ := h.ex
  obtain ⟨t', p', s'⟩ := g.ex
  refine ⟨_, pe_and p p', fun Γ σ env τ stk G H Q hp r h => s Γ σ env τ stk G H _ hp r (h.onB.imp fun o e ⟨c, eo, q⟩ v G' H' r' => ?_)⟩
  subst eo
  obtain rfl := r'.topB
  refine ⟨c, rfl, ?_⟩
  cases c with
  | true =>
    rw [if_pos rfl] at q ⊢
    exact s' Γ σ e τ stk G' H' Q hp r'.pop q
  | false =>
    rw [if_neg Bool.false_ne_true] at q ⊢
    exact q _ G' H' (r'.pop.pushD (.bl _))
theorem de_or {a b : Expr} {rest : List Expr} {pos : Pos} {m n : ME} (h : DE X W np a m) (g : DE X W np (.BoolOp .Or (b :: rest) pos) n) : DE X W np (.BoolOp .Or (a :: b :: rest) pos) (mOr m n) := by
  obtain ⟨t, p, s⟩ := h.ex
  obtain ⟨t', p', s'⟩ := g.ex
  refine ⟨_, pe_or p p', fun Γ σ env τ stk G H Q hp r h => s Γ σ env τ stk G H _ hp r (h.onB.imp fun o e ⟨c, eo, q⟩ v G' H' r' => ?_)⟩
  subst eo
  obtain rfl := r'.topB
  refine ⟨c, rfl, ?_⟩
  cases c with
  | false =>
    rw [if_neg Bool.false_ne_true] at q ⊢
    exact s' Γ σ e τ stk G' H' Q hp r'.pop q
  | true =>
    rw [if_pos rfl] at q ⊢
    exact q _ G' H' (r'.pop.pushD (.bl _))
theorem de_one {a : Expr} {op} {pos : Pos} {m : ME} (h : DE X W np a m) : DE X W np (.BoolOp op [a] pos) m := by
  obtain ⟨t, p, s⟩ := h.ex
  exact ⟨_, pe_one p, s⟩
/-! ### tests -/
def mB (m : ME) : Env → Rs Bool := fun e => match m e with
  | .ok (.d (.bl c)) e => .ok c e
  | .ok _ _ => .fail
  | .exc x e => .exc x e
  | .fail => .fail
theorem RsQ.mB {Γ : Ctx} {σ : St} {τ : List (Option V)} {stk : Env} {P : Bool → Env → Prop} {m : ME} {env : Env} (h : RsQ K mg Γ W σ τ stk P (Dn.mB m env)) : RsQ K mg Γ W σ τ stk (fun o e => ∃ c, o = .d (.bl c) ∧ P c e) (m env) := by
  unfold Dn.mB at h
  cases q : m env with
  | ok o e =>
    rw [q] at h
    split at h
    · rename_i c e1 he
      cases he
      exact ⟨c, rfl, h⟩
    · exact False.elim h
    · rename_i he
      cases he
    · rename_i he
      cases he
  | exc x e =>
    rw [q] at h
    exact h
  | fail =>
    rw [q] at h
    exact h
theorem dt_val {a : Expr} {m : ME} (h : DE X W np a m) (he : ∀ whole, isTrue a X.env whole = (do let v ← whole; standAt a.pos; holding [v] (truthy v)) := by intro _; rfl) : DT X W np a (mB m) := by
  obtain ⟨t, p, s⟩ := h.ex
  refine ⟨_, pt_val p he, fun Γ σ env τ stk G H Q hp r h => s Γ σ env τ stk G H _ hp r (h.mB.imp fun o e ⟨c, eo, q⟩ v G' H' r' => ?_)⟩
  subst eo
  obtain rfl := r'.topB
  exact ⟨c, rfl, q G' H' r'.pop⟩
/-- truth -/
def truO : O → Option Bool
  | .d .non => some false
  | .d (.bl b) => some b
  | .d (.int i) => some (i != 0)
  | .d (.str _) => none
  | .d (.tup xs) => some (!xs.isEmpty)
  | .d (.lst xs) => some (!xs.isEmpty)
  | .d (.scr xs) => some (!xs.isEmpty)
  | .l os => some (!os.isEmpty)
  | .t _ => none
theorem empty_of {α β : Type} {xs : List α} {ys : List β} (h : xs.length = ys.length) : xs.isEmpty = ys.isEmpty := by
  cases xs <;> cases ys <;> first | rfl | cases h
theorem orep_tru {G H : Hp} (e : Sub G H) {v : V} {o : O} {b : Bool} (h : ∃ f, ORep K G H v o f) (hb : truO o = some b) : TruV K v H b := by
  obtain ⟨f, h⟩ := h
  cases h with
  | d h =>
    cases h with
    | non => exact (Option.some.inj hb).symm
    | bl b => exact (Option.some.inj hb).symm
    | int b => exact (Option.some.inj hb).symm
    | str b => cases hb
    | tup h r => exact .inr (.inl ⟨_, e.sqT h, by rw [empty_of r.length]; exact (Option.some.inj hb).symm⟩)
    | lst h r => exact .inl ⟨_, .inl (.inl (e _ _ h)), by rw [empty_of r.length]; exact (Option.some.inj hb).symm⟩
    | scr h r => exact .inl ⟨_, e.sqL h, by rw [empty_of r.length]; exact (Option.some.inj hb).symm⟩
  | l h g r => exact .inl ⟨_, .inl (.inl h), by rw [empty_of r.length]; exact (Option.some.inj hb).symm⟩
  | t => cases hb
def one1 (P : V → Hp → Prop) : List V → Hp → Prop
  | [x] => P x
  | _ => fun _ => False
def mTru (k : AK) : Env → Rs Bool := fun env => match evalA [k] env with
  | .ok cs e => match resA [k] cs e with
    | some [o] => match truO o with
      | some b => .ok b e
      | none => .fail
    | _ => .fail
  | .exc x e => .exc x e
  | .fail => .fail
theorem dt_tru {a : Expr} {k : AK} (h : DK X W np a k) (he : ∀ whole, isTrue a X.env whole = (do let v ← whole; standAt a.pos; holding [v] (truthy v)) := by intro _; rfl) : DT X W np a (mTru k) := by
  obtain ⟨t, p, s⟩ := h.ex
  refine ⟨_, pt_truth p he, fun Γ σ env τ stk G H Q hp r h => ?_⟩
  refine (show tCons t tNil σ H (one1 fun x H' => ∃ b, TruV X.K x H' b ∧ Q b H') from asnd_cons s asnd_nil Γ σ env τ stk G H _ hp r ?_)
  unfold mTru at h
  cases e1 : evalA [k] env with
  | ok cs e =>
    simp only [e1] at h
    intro vs G1 H1 hl r1 n1
    cases e2 : resA [k] cs e with
    | none =>
      simp only [e2] at h
      exact False.elim h
    | some os =>
      simp only [e2] at h
      split at h
      · rename_i o ho
        cases ho
        cases e3 : truO o with
        | none =>
          simp only [e3] at h
          exact False.elim h
        | some b =>
          simp only [e3] at h
          have ha := oall_of (pre := []) (pres := []) rfl r1 hl n1 e2
          match ha with
          | @OAll.cons _ _ _ v _ _ _ h1 .nil => exact ⟨b, orep_tru r1.wd.sub h1 e3, h G1 H1 (R.popN (by simp [hl]) r1)⟩
      · exact False.elim h
  | exc x e =>
    simp only [e1] at h
    exact h
  | fail =>
    simp only [e1] at h
    exact h
def mTNot (m : Env → Rs Bool) : Env → Rs Bool := fun e => match m e with
  | .ok c e => .ok (!c) e
  | .exc x e => .exc x e
  | .fail => .fail
theorem dt_not {a : Expr} {pos : Pos} {m : Env → Rs Bool} (h : DT X W np a m) : DT X W np (.UnaryOp .Not a pos) (mTNot m) := by
  obtain ⟨t, p, s⟩ := h.ex
  refine ⟨_, pt_not p, fun Γ σ env τ stk G H Q hp r h => s Γ σ env τ stk G H _ hp r ?_⟩
  unfold mTNot at h
  cases q : m env with
  | ok o e =>
    rw [q] at h
    exact h
  | exc x e =>
    rw [q] at h
    exact h
  | fail =>
    rw [q] at h
    exact h
end
end Dn
end
section
set_option Elab.async false
set_option linter.all false
set_option maxRecDepth 100000
set_option maxHeartbeats 4000000
/-! Dn4: displays, items, slices, built-ins upon lists and tuples. -/
namespace Dn
open PySem PySem.Spec L2
open PyProof.Rows hiding St
def allS : List (Option O) → Option (List O)
  | [] => some []
  | some o :: r => (allS r).map (o :: ·)
  | none :: _ => none
theorem allS_of : ∀ {cs : List (Option O)} {os : List O}, allS cs = some os → cs = os.map some
  | [], _, h => by
    cases h
    rfl
  | none :: _, _, h => by cases h
  | some o :: r, os, h => by
    unfold allS at h
    cases e : allS r with
    | none => rw [e] at h; cases h
    | some z =>
      rw [e] at h
      cases h
      rw [allS_of e]
      rfl
def line : Nat := 16777216
theorem line_eq {n : Nat} (h : n ≤ line) : n ≤ sizeLine := by
  rw [sizeLine_eq]
  exact h
/-- the operands' values all come to one -/
def mAll (f : List O → Option O) (ks : List AK) : ME := fun env => match evalA ks env with
  | .ok cs e => match allS cs with
    | some os => match f os with
      | some o => .ok o e
      | none => .fail
    | none => .fail
  | .exc x e => .exc x e
  | .fail => .fail
def oTup (os : List O) : Option O := if os.length ≤ line then some (.d (.tup (frzs os))) else none
def oLst (os : List O) : Option O := if os.length ≤ line then some (.l os) else none
section
variable {X : Cx} {W : WX} {np : Asm} {K : PySem.W.Frag} {mg : Str → Option Value}
section
variable {Γ : Ctx} {σ : St} {env : Env} {τ : List (Option V)} {stk : Env} {G H : Hp}
theorem frzs_len : ∀ os : List O, (frzs os).length = os.length
  | [] => rfl
  | _ :: r => by
    unfold frzs
    rw [List.length_cons, List.length_cons, frzs_len r]
theorem frzs_d : ∀ xs : List D, frzs (xs.map O.d) = xs
  | [] => rfl
  | x :: r => by
    show frz (.d x) :: frzs (r.map O.d) = x :: r
    rw [frzs_d r]
    rfl
/-- what lies on top is frozen and taken off -/
theorem R.frzN {vs : List V} {os : List O} (r : R K Γ σ env (vs.map some ++ τ) (os.map some ++ stk) G H) (hl : vs.length = os.length) : ∃ G', R K Γ σ env τ stk G' H ∧ Reps K G' vs (frzs os) := by
  obtain ⟨f1, f2, c, s, n, m⟩ := r.ex
  obtain ⟨fa, fb, e, q', s2⟩ := s.split (by simpa using hl)
  have q := q'.reps
  subst e
  have gn : ∀ a ∈ fa, G a = none := fun a h => (q.own a h).2
  have ma : Mine Γ fa := fun a h => m a (List.mem_append_right _ (List.mem_append_left _ h))
  have nd := List.nodup_append.mp n
  have nd2 := List.nodup_append.mp nd.2.1
  have k1 : Keep G H (join G H fa) H f1 := ⟨Sub.join gn, fun a h => ⟨rfl, fun z => by
    rw [join_out (fun y => nd.2.2 a h a (List.mem_append_left _ y) rfl)]
    exact z⟩⟩
  have k2 : Keep G H (join G H fa) H fb := ⟨Sub.join gn, fun a h => ⟨rfl, fun z => by
    rw [join_out (fun y => nd2.2.2 a y a h rfl)]
    exact z⟩⟩
  have sl : (f1 ++ fb).Sublist (f1 ++ (fa ++ fb)) := List.Sublist.append (List.Sublist.refl _) (List.sublist_append_right _ _)
  exact ⟨join G H fa, ⟨r.wd.grow ma gn, r.pin, f1, fb, c.keep k1, s2.keep k2, n.sublist sl, fun a h => m a (sl.subset h)⟩, q.frz (Sub.join gn) fun a h => join_in h⟩
theorem R.pushDs : ∀ {vs : List V} {xs : List D}, Reps K G vs xs → R K Γ σ env τ stk G H → R K Γ σ env (vs.map some ++ τ) ((xs.map O.d).map some ++ stk) G H
  | _, _, .nil, r => r
  | _, _, .cons h q, r => (R.pushDs q r).pushD h
/-- a new list of what stays -/
theorem R.mkL {p : Addr} {vs : List V} {xs : List D} (r : R K Γ σ env τ stk G H) (h : Reps K G vs xs) (hp : H p = none) : R K Γ σ env (some (.ref p) :: τ) (some (.l (xs.map O.d)) :: stk) G (upd H p (.lst vs)) :=
  (r.pushDs h).newL (by rw [List.length_map]; exact h.length) hp
/-- a new tuple of what stays -/
theorem R.mkT {p : Addr} {vs : List V} {xs : List D} (r : R K Γ σ env τ stk G H) (h : Reps K G vs xs) (hp : H p = none) : R K Γ σ env (some (.ref p) :: τ) (some (.d (.tup xs)) :: stk) (upd G p (.tup vs)) (upd H p (.tup vs)) := by
  obtain ⟨r1, sg⟩ := r.newG (o := .tup vs) hp
  exact r1.pushD (.tup (.inl (.inl upd_same)) (h.mono sg))
end
theorem de_tup {es : List Expr} {ks : List AK} {x1 : Nat} {pos : Pos} (h : DA X W np es ks) : DE X W np (.Tuple es x1 pos) (mAll oTup ks) := by
  obtain ⟨t, p, s⟩ := h.ex
  refine ⟨_, pe_tup p, fun Γ σ env τ stk G H Q hp r h => s Γ σ env τ stk G H _ hp r ?_⟩
  unfold mAll at h
  cases e1 : evalA ks env with
  | ok cs e =>
    simp only [e1] at h
    intro vs G1 H1 hl r1 n1
    cases e2 : allS cs with
    | none =>
      simp only [e2] at h
      exact False.elim h
    | some os =>
      simp only [e2] at h
      have ec := allS_of e2
      subst ec
      have hl' : vs.length = os.length := by
        rw [← hl, List.length_map]
      by_cases hs : os.length ≤ line
      · simp only [oTup, if_pos hs] at h
        obtain ⟨G2, r2, q2⟩ := r1.frzN hl'
        exact ⟨line_eq (by rw [hl']; exact hs), fun p hp => h _ _ _ (r2.mkT q2 hp)⟩
      · simp only [oTup, if_neg hs] at h
        exact False.elim h
  | exc x e =>
    simp only [e1] at h
    exact h
  | fail =>
    simp only [e1] at h
    exact h
theorem de_lst {es : List Expr} {ks : List AK} {pos : Pos} (h : DA X W np es ks) : DE X W np (.List es pos) (mAll oLst ks) := by
  obtain ⟨t, p, s⟩ := h.ex
  refine ⟨_, pe_lst p, fun Γ σ env τ stk G H Q hp r h => s Γ σ env τ stk G H _ hp r ?_⟩
  unfold mAll at h
  cases e1 : evalA ks env with
  | ok cs e =>
    simp only [e1] at h
    intro vs G1 H1 hl r1 n1
    cases e2 : allS cs with
    | none =>
      simp only [e2] at h
      exact False.elim h
    | some os =>
      simp only [e2] at h
      have ec := allS_of e2
      subst ec
      have hl' : vs.length = os.length := by
        rw [← hl, List.length_map]
      by_cases hs : os.length ≤ line
      · simp only [oLst, if_pos hs] at h
        exact ⟨line_eq (by rw [hl']; exact hs), fun p hp => h _ _ _ (r1.newL hl' hp)⟩
      · simp only [oLst, if_neg hs] at h
        exact False.elim h
  | exc x e =>
    simp only [e1] at h
    exact h
  | fail =>
    simp only [e1] at h
    exact h
/-! ### what a list or a tuple holds -/
def allD : List O → Option (List D)
  | [] => some []
  | .d x :: r => (allD r).map (x :: ·)
  | .l _ :: _ => none
  | .t _ :: _ => none
theorem allD_of {G H : Hp} : ∀ {os : List O} {vs : List V} {f : List Addr} {xs : List D}, OReps K G H vs os f → allD os = some xs → Reps K G vs xs
  | _, _, _, _, .nil, h => by
    cases h
    exact .nil
  | _, _, _, _, .cons (o := .l _) q r, h => by cases h
  | _, _, _, _, .cons (o := .t _) q r, h => by cases h
  | _, _, _, _, .cons (o := .d x) (os := os) q r, h => by
    unfold allD at h
    cases e : allD os with
    | none => rw [e] at h; cases h
    | some z =>
      rw [e] at h
      cases h
      cases q with
      | d q => exact .cons q (allD_of r e)
theorem allD_map : ∀ xs : List D, allD (xs.map O.d) = some xs
  | [] => rfl
  | x :: r => by
    show (allD (r.map O.d)).map (x :: ·) = some (x :: r)
    rw [allD_map r]
    rfl
/-- a list's items -/
def lstF : O → Option (List D)
  | .d (.lst xs) => some xs
  | .d (.scr xs) => some xs
  | .l os => allD os
  | _ => none
def tupF : O → Option (List D)
  | .d (.tup xs) => some xs
  | .t xs => some xs
  | _ => none
theorem lstF_of {G H : Hp} (e : Sub G H) {v : V} {o : O} {xs : List D} (h : ∃ f, ORep K G H v o f) (hx : lstF o = some xs) : ∃ a vs, v = .ref a ∧ SqL K H a vs ∧ Reps K G vs xs := by
  obtain ⟨f, h⟩ := h
  cases h with
  | d h =>
    cases h with
    | lst h r =>
      cases hx
      exact ⟨_, _, rfl, .inl (.inl (e _ _ h)), r⟩
    | scr h r =>
      cases hx
      exact ⟨_, _, rfl, e.sqL h, r⟩
    | tup => cases hx
    | _ => cases hx
  | l h g r => exact ⟨_, _, rfl, .inl (.inl h), allD_of r hx⟩
  | t => cases hx
theorem tupF_of {G H : Hp} (e : Sub G H) {v : V} {o : O} {xs : List D} (h : ∃ f, ORep K G H v o f) (hx : tupF o = some xs) : ∃ a vs, v = .ref a ∧ SqT K H a vs ∧ Reps K G vs xs ∧ SqT K G a vs := by
  obtain ⟨f, h⟩ := h
  cases h with
  | d h =>
    cases h with
    | tup h r =>
      cases hx
      exact ⟨_, _, rfl, e.sqT h, r, h⟩
    | lst => cases hx
    | _ => cases hx
  | l => cases hx
  | t h g r =>
    cases hx
    exact ⟨_, _, rfl, .inl (.inr ⟨_, e _ _ h⟩), r, .inl (.inr ⟨_, h⟩)⟩
theorem Reps.get {G : Hp} : ∀ {vs : List V} {xs : List D} {i : Nat} {x : D}, Reps K G vs xs → xs[i]? = some x → ∃ v, vs[i]? = some v ∧ Rep K G v x
  | _, _, _, _, .nil, h => by simp at h
  | _, _, 0, _, .cons q r, h => by
    cases h
    exact ⟨_, rfl, q⟩
  | _, _, i + 1, _, .cons q r, h => by
    obtain ⟨v, h1, h2⟩ := r.get (i := i) (by simpa using h)
    exact ⟨v, by simpa using h1, h2⟩
theorem Reps.getV {G : Hp} : ∀ {vs : List V} {xs : List D} {i : Nat} {v : V}, Reps K G vs xs → vs[i]? = some v → ∃ x, xs[i]? = some x ∧ Rep K G v x
  | _, _, _, _, .nil, h => by simp at h
  | _, _, 0, _, .cons q r, h => by
    cases h
    exact ⟨_, rfl, q⟩
  | _, _, i + 1, _, .cons q r, h => by
    obtain ⟨v, h1, h2⟩ := r.getV (i := i) (by simpa using h)
    exact ⟨v, by simpa using h1, h2⟩
theorem atI_len {α β : Type} {xs : List α} {ys : List β} {i : Int} (h : xs.length = ys.length) {x : α} (e : atI xs i = some x) : ∃ j : Nat, xs[j]? = some x ∧ ∀ y, ys[j]? = some y → atI ys i = some y := by
  unfold atI at e
  cases q : ixN xs.length i with
  | none => rw [q] at e; cases e
  | some j =>
    rw [q] at e
    refine ⟨j, e, fun y hy => ?_⟩
    unfold atI
    rw [← h, q]
    exact hy
theorem Reps.at {G : Hp} {vs : List V} {xs : List D} {i : Int} {x : D} (r : Reps K G vs xs) (h : atI xs i = some x) : ∃ v, atI vs i = some v ∧ Rep K G v x := by
  obtain ⟨j, h1, h2⟩ := atI_len (ys := vs) r.length.symm h
  obtain ⟨v, h3, h4⟩ := r.get h1
  exact ⟨v, h2 v h3, h4⟩
/-- the item at a place; a list of which some items are lists of its own is only looked at where it holds data -/
def atO (o : O) (i : Int) : Option D := match o with
  | .d (.tup xs) => atI xs i
  | .d (.lst xs) => atI xs i
  | .d (.scr xs) => atI xs i
  | .l os => match atI os i with
    | some (.d x) => some x
    | _ => none
  | _ => none
theorem OReps.get {G H : Hp} : ∀ {vs : List V} {os : List O} {f : List Addr} {i : Nat} {o : O}, OReps K G H vs os f → os[i]? = some o → ∃ v g, vs[i]? = some v ∧ ORep K G H v o g
  | _, _, _, _, _, .nil, h => by simp at h
  | _, _, _, 0, _, .cons q r, h => by
    cases h
    exact ⟨_, _, rfl, q⟩
  | _, _, _, i + 1, _, .cons q r, h => by
    obtain ⟨v, g, h1, h2⟩ := r.get (i := i) (by simpa using h)
    exact ⟨v, g, by simpa using h1, h2⟩
def oIx : List O → Option O
  | [a, b] => match asI b with
    | some i => (atO a i).map O.d
    | none => none
  | _ => none
def rIxLT (K : PySem.W.Frag) : R2 := fun x y H Q => rIxL K x y H Q ∨ rIxT K x y H Q
theorem ix_lt : IxR X (rIxLT X.K) := ix_list.or ix_tup
theorem orep_at {G H : Hp} (e : Sub G H) {v : V} {o : O} {i : Int} {x : D} (h : ∃ f, ORep K G H v o f) (ha : atO o i = some x) : ∃ p vs w, v = .ref p ∧ (SqL K H p vs ∨ SqT K H p vs) ∧ atI vs i = some w ∧ Rep K G w x := by
  obtain ⟨f, h⟩ := h
  cases h with
  | d h =>
    cases h with
    | tup h r =>
      obtain ⟨w, h1, h2⟩ := r.at ha
      exact ⟨_, _, w, rfl, .inr (e.sqT h), h1, h2⟩
    | lst h r =>
      obtain ⟨w, h1, h2⟩ := r.at ha
      exact ⟨_, _, w, rfl, .inl (.inl (.inl (e _ _ h))), h1, h2⟩
    | scr h r =>
      obtain ⟨w, h1, h2⟩ := r.at ha
      exact ⟨_, _, w, rfl, .inl (e.sqL h), h1, h2⟩
    | _ => cases ha
  | @l a vs os fp h g r =>
    simp only [atO] at ha
    cases q : atI os i with
    | none => rw [q] at ha; cases ha
    | some z =>
      rw [q] at ha
      cases z with
      | l => cases ha
      | t => cases ha
      | d z =>
        cases ha
        obtain ⟨j, h1, h2⟩ := atI_len (ys := vs) r.length.symm q
        obtain ⟨w, _, h3, h4⟩ := r.get h1
        cases h4 with
        | d h4 => exact ⟨_, _, w, rfl, .inl (.inl (.inl h)), h2 w h3, h4⟩
  | t => cases ha
theorem s_ix : OpS K (r2 (rIxLT K)) oIx := by
  intro Γ σ e τ stk G H vs os o Q rr ha ho k
  match ha with
  | .nil => cases ho
  | .cons _ .nil => cases ho
  | .cons _ (.cons _ (.cons _ _)) => cases ho
  | @OAll.cons _ _ _ v a _ _ h1 (@OAll.cons _ _ _ w b _ _ h2 .nil) =>
    cases ei : asI b with
    | none => simp [oIx, ei] at ho
    | some i =>
      simp only [oIx, ei] at ho
      obtain rfl := orep_int h2 ei
      cases ea : atO a i with
      | none => rw [ea] at ho; cases ho
      | some x =>
        rw [ea] at ho
        cases ho
        obtain ⟨p, vs, y, rfl, sq, hy, ry⟩ := orep_at rr.wd.sub h1 ea
        rcases sq with sq | sq
        · exact .inl ⟨p, vs, i, y, rfl, rfl, sq, hy, k y G H (rr.pushD ry)⟩
        · exact .inr ⟨p, vs, i, y, rfl, rfl, sq, hy, k y G H (rr.pushD ry)⟩
/-! ### len, tuple, list, min, max, sum, all, any -/
def lenO : O → Option Nat
  | .d (.tup xs) => some xs.length
  | .d (.lst xs) => some xs.length
  | .d (.scr xs) => some xs.length
  | .l os => some os.length
  | _ => none
def op1 (f : O → Option O) : List O → Option O
  | [a] => f a
  | _ => none
theorem ops1 {r : List V → Hp → VK → Prop} {f : O → Option O} (h : ∀ (Γ : Ctx) (σ : St) (e : Env) (τ : List (Option V)) (stk : Env) (G H : Hp) (v : V) (a o : O) (Q : VK), R K Γ σ e τ stk G H → (∃ g, ORep K G H v a g) → f a = some o → (∀ v G' H', R K Γ σ e (some v :: τ) (some o :: stk) G' H' → Q v H') → r [v] H Q) : OpS K r (op1 f) := by
  intro Γ σ e τ stk G H vs os o Q rr ha ho k
  match ha with
  | .nil => cases ho
  | .cons _ (.cons _ _) => cases ho
  | @OAll.cons _ _ _ v a _ _ h1 .nil => exact h Γ σ e τ stk G H v a o Q rr h1 ho k
abbrev oLen := op1 fun a => (lenO a).map fun n => .d (.int n)
theorem s_len : OpS K (fun xs H Q => ∃ p ys, xs = [.ref p] ∧ (SqL K H p ys ∨ SqT K H p ys) ∧ Q (.int ys.length) H) oLen := ops1 fun Γ σ e τ stk G H v a o Q rr h ho k => by
  obtain ⟨f, h⟩ := h
  cases h with
  | d h =>
    cases h with
    | tup h r =>
      cases ho
      refine ⟨_, _, rfl, .inr (rr.wd.sub.sqT h), k _ G H (rr.pushD ?_)⟩
      rw [r.length]
      exact .int _
    | lst h r =>
      cases ho
      refine ⟨_, _, rfl, .inl (.inl (.inl (rr.wd.sub _ _ h))), k _ G H (rr.pushD ?_)⟩
      rw [r.length]
      exact .int _
    | scr h r =>
      cases ho
      refine ⟨_, _, rfl, .inl (rr.wd.sub.sqL h), k _ G H (rr.pushD ?_)⟩
      rw [r.length]
      exact .int _
    | _ => cases ho
  | l h g r =>
    cases ho
    refine ⟨_, _, rfl, .inl (.inl (.inl h)), k _ G H (rr.pushD ?_)⟩
    rw [r.length]
    exact .int _
  | t => cases ho
def toTup (a : O) : Option O := match tupF a with
  | some xs => some (.d (.tup xs))
  | none => (lstF a).map fun xs => .d (.tup xs)
theorem s_tuple : OpS K (fun xs H Q => ∃ p ys, xs = [.ref p] ∧ ((SqL K H p ys ∧ ∀ l, H l = none → Q (.ref l) (upd H l (.tup ys))) ∨ (SqT K H p ys ∧ Q (.ref p) H))) (op1 toTup) := ops1 fun Γ σ e τ stk G H v a o Q rr h ho k => by
  unfold toTup at ho
  cases e1 : tupF a with
  | some xs =>
    rw [e1] at ho
    cases ho
    obtain ⟨p, vs, rfl, sq, rp, sg⟩ := tupF_of rr.wd.sub h e1
    exact ⟨p, vs, rfl, .inr ⟨sq, k _ G H (rr.pushD (.tup sg rp))⟩⟩
  | none =>
    rw [e1] at ho
    cases e2 : lstF a with
    | none => rw [e2] at ho; cases ho
    | some xs =>
      rw [e2] at ho
      cases ho
      obtain ⟨p, vs, rfl, sq, rp⟩ := lstF_of rr.wd.sub h e2
      exact ⟨p, vs, rfl, .inl ⟨sq, fun l hl => k _ _ _ (rr.mkT rp hl)⟩⟩
def toLst (a : O) : Option O := match tupF a with
  | some xs => some (.l (xs.map O.d))
  | none => (lstF a).map fun xs => .l (xs.map O.d)
theorem s_list : OpS K (fun xs H Q => ∃ p ys, xs = [.ref p] ∧ (SqL K H p ys ∨ SqT K H p ys) ∧ ∀ l, H l = none → Q (.ref l) (upd H l (.lst ys))) (op1 toLst) := ops1 fun Γ σ e τ stk G H v a o Q rr h ho k => by
  unfold toLst at ho
  cases e1 : tupF a with
  | some xs =>
    rw [e1] at ho
    cases ho
    obtain ⟨p, vs, rfl, sq, rp, sg⟩ := tupF_of rr.wd.sub h e1
    exact ⟨p, vs, rfl, .inr sq, fun l hl => k _ _ _ (rr.mkL rp hl)⟩
  | none =>
    rw [e1] at ho
    cases e2 : lstF a with
    | none => rw [e2] at ho; cases ho
    | some xs =>
      rw [e2] at ho
      cases ho
      obtain ⟨p, vs, rfl, sq, rp⟩ := lstF_of rr.wd.sub h e2
      exact ⟨p, vs, rfl, .inl sq, fun l hl => k _ _ _ (rr.mkL rp hl)⟩
def dInts : List D → Option (List Int)
  | [] => some []
  | .int i :: r => (dInts r).map (i :: ·)
  | _ :: _ => none
theorem dInts_of {G : Hp} : ∀ {xs : List D} {vs : List V} {ns : List Int}, Reps K G vs xs → dInts xs = some ns → vs = ns.map V.int
  | _, _, _, .nil, h => by
    cases h
    rfl
  | x :: xs, _, _, .cons q r, h => by
    cases q with
    | int i =>
      unfold dInts at h
      cases e : dInts xs with
      | none => rw [e] at h; cases h
      | some z =>
        rw [e] at h
        cases h
        rw [dInts_of r e]
        rfl
    | _ => cases h
theorem dInts_map : ∀ ns : List Int, dInts (ns.map D.int) = some ns
  | [] => rfl
  | i :: r => by
    show (dInts (r.map D.int)).map (i :: ·) = some (i :: r)
    rw [dInts_map r]
    rfl
def dBools : List D → Option (List Bool)
  | [] => some []
  | .bl i :: r => (dBools r).map (i :: ·)
  | _ :: _ => none
theorem dBools_of {G : Hp} : ∀ {xs : List D} {vs : List V} {ns : List Bool}, Reps K G vs xs → dBools xs = some ns → vs = ns.map V.bl
  | _, _, _, .nil, h => by
    cases h
    rfl
  | x :: xs, _, _, .cons q r, h => by
    cases q with
    | bl i =>
      unfold dBools at h
      cases e : dBools xs with
      | none => rw [e] at h; cases h
      | some z =>
        rw [e] at h
        cases h
        rw [dBools_of r e]
        rfl
    | _ => cases h
theorem dBools_map : ∀ ns : List Bool, dBools (ns.map D.bl) = some ns
  | [] => rfl
  | i :: r => by
    show (dBools (r.map D.bl)).map (i :: ·) = some (i :: r)
    rw [dBools_map r]
    rfl
def minI : Int → List Int → Int
  | m, [] => m
  | m, x :: r => minI (if x < m then x else m) r
def maxI : Int → List Int → Int
  | m, [] => m
  | m, x :: r => maxI (if m < x then x else m) r
theorem minI_spec : ∀ (r : List Int) (m : Int), (minI m r = m ∨ minI m r ∈ r) ∧ minI m r ≤ m ∧ ∀ y ∈ r, minI m r ≤ y
  | [], m => ⟨.inl rfl, Int.le_refl _, fun y h => by cases h⟩
  | x :: r, m => by
    obtain ⟨h1, h2, h3⟩ := minI_spec r (if x < m then x else m)
    unfold minI
    split at h1
    · rename_i hc
      simp only [if_pos hc] at h2 h3 ⊢
      refine ⟨.inr ?_, by omega, fun y hy => ?_⟩
      · rcases h1 with h1 | h1
        · rw [h1]; exact List.mem_cons_self
        · exact List.mem_cons_of_mem _ h1
      · rcases List.mem_cons.mp hy with rfl | hy
        · exact h2
        · exact h3 y hy
    · rename_i hc
      simp only [if_neg hc] at h2 h3 ⊢
      refine ⟨?_, h2, fun y hy => ?_⟩
      · rcases h1 with h1 | h1
        · exact .inl h1
        · exact .inr (List.mem_cons_of_mem _ h1)
      · rcases List.mem_cons.mp hy with rfl | hy
        · omega
        · exact h3 y hy
theorem maxI_spec : ∀ (r : List Int) (m : Int), (maxI m r = m ∨ maxI m r ∈ r) ∧ m ≤ maxI m r ∧ ∀ y ∈ r, y ≤ maxI m r
  | [], m => ⟨.inl rfl, Int.le_refl _, fun y h => by cases h⟩
  | x :: r, m => by
    obtain ⟨h1, h2, h3⟩ := maxI_spec r (if m < x then x else m)
    unfold maxI
    split at h1
    · rename_i hc
      simp only [if_pos hc] at h2 h3 ⊢
      refine ⟨.inr ?_, by omega, fun y hy => ?_⟩
      · rcases h1 with h1 | h1
        · rw [h1]; exact List.mem_cons_self
        · exact List.mem_cons_of_mem _ h1
      · rcases List.mem_cons.mp hy with rfl | hy
        · exact h2
        · exact h3 y hy
    · rename_i hc
      simp only [if_neg hc] at h2 h3 ⊢
      refine ⟨?_, h2, fun y hy => ?_⟩
      · rcases h1 with h1 | h1
        · exact .inl h1
        · exact .inr (List.mem_cons_of_mem _ h1)
      · rcases List.mem_cons.mp hy with rfl | hy
        · omega
        · exact h3 y hy
/-- a list of dInts, into one value -/
def oInts (f : List Int → Option D) : List O → Option O := op1 fun a => ((lstF a).bind dInts).bind fun ns => (f ns).map O.d
theorem s_ints {r : List V → Hp → VK → Prop} {f : List Int → Option D} (h : ∀ (H : Hp) (a : Addr) (ns : List Int) (x : D) (Q : VK), SqL K H a (ns.map V.int) → f ns = some x → (∀ v, atom x = some v → Q v H) → r [.ref a] H Q) (ht : ∀ ns x, f ns = some x → ∃ v, atom x = some v) : OpS K r (oInts f) := ops1 fun Γ σ e τ stk G H v a o Q rr h' ho k => by
  cases e1 : lstF a with
  | none => simp [e1] at ho
  | some xs =>
    cases e2 : dInts xs with
    | none => simp [e1, e2] at ho
    | some ns =>
      cases e3 : f ns with
      | none => simp [e1, e2, e3] at ho
      | some x =>
        simp [e1, e2, e3] at ho
        subst ho
        obtain ⟨p, vs, rfl, sq, rp⟩ := lstF_of rr.wd.sub h' e1
        have ev := dInts_of rp e2
        subst ev
        exact h H p ns x Q sq e3 fun v hv => k v G H (rr.pushD (rep_atom hv))
def fMin : List Int → Option D
  | [] => none
  | m :: r => some (.int (minI m r))
def fMax : List Int → Option D
  | [] => none
  | m :: r => some (.int (maxI m r))
def fSum (ns : List Int) : Option D := some (.int ns.sum)
abbrev oMin := oInts fMin
abbrev oMax := oInts fMax
abbrev oSum := oInts fSum
theorem s_min : OpS K (rMin K) oMin := s_ints (fun H a ns x Q sq e k => by
  cases ns with
  | nil => cases e
  | cons m r =>
    cases e
    refine ⟨a, m :: r, rfl, sq, Nat.succ_pos _, fun z hz hl => ?_⟩
    obtain ⟨h1, h2, h3⟩ := minI_spec r m
    have e1 : minI m r ≤ z := by
      rcases List.mem_cons.mp hz with rfl | hz
      · exact h2
      · exact h3 z hz
    have e2 : z ≤ minI m r := by
      rcases h1 with h1 | h1
      · rw [h1]; exact hl m List.mem_cons_self
      · exact hl _ (List.mem_cons_of_mem _ h1)
    have e3 : z = minI m r := by omega
    rw [e3]
    exact k _ rfl) fun ns x e => by
  cases ns with
  | nil => cases e
  | cons m r =>
    cases e
    exact ⟨_, rfl⟩
theorem s_max : OpS K (rMax K) oMax := s_ints (fun H a ns x Q sq e k => by
  cases ns with
  | nil => cases e
  | cons m r =>
    cases e
    refine ⟨a, m :: r, rfl, sq, Nat.succ_pos _, fun z hz hl => ?_⟩
    obtain ⟨h1, h2, h3⟩ := maxI_spec r m
    have e1 : z ≤ maxI m r := by
      rcases List.mem_cons.mp hz with rfl | hz
      · exact h2
      · exact h3 z hz
    have e2 : maxI m r ≤ z := by
      rcases h1 with h1 | h1
      · rw [h1]; exact hl m List.mem_cons_self
      · exact hl _ (List.mem_cons_of_mem _ h1)
    have e3 : z = maxI m r := by omega
    rw [e3]
    exact k _ rfl) fun ns x e => by
  cases ns with
  | nil => cases e
  | cons m r =>
    cases e
    exact ⟨_, rfl⟩
theorem s_sum : OpS K (rSum K) oSum := s_ints (fun H a ns x Q sq e k => by
  cases e
  exact ⟨a, ns, rfl, sq, k _ rfl⟩) fun ns x e => by
  cases e
  exact ⟨_, rfl⟩
def oBools (f : List Bool → Bool) : List O → Option O := op1 fun a => ((lstF a).bind dBools).map fun bs => .d (.bl (f bs))
theorem s_bools {r : List V → Hp → VK → Prop} {f : List Bool → Bool} (h : ∀ (H : Hp) (a : Addr) (bs : List Bool) (Q : VK), SqL K H a (bs.map V.bl) → Q (.bl (f bs)) H → r [.ref a] H Q) : OpS K r (oBools f) := ops1 fun Γ σ e τ stk G H v a o Q rr h' ho k => by
  cases e1 : lstF a with
  | none => simp [e1] at ho
  | some xs =>
    cases e2 : dBools xs with
    | none => simp [e1, e2] at ho
    | some bs =>
      simp [e1, e2] at ho
      subst ho
      obtain ⟨p, vs, rfl, sq, rp⟩ := lstF_of rr.wd.sub h' e1
      have ev := dBools_of rp e2
      subst ev
      exact h H p bs Q sq (k _ G H (rr.pushD (.bl _)))
abbrev oAll := oBools (·.all id)
abbrev oAny := oBools (·.any id)
theorem s_all : OpS K (rAll K) oAll := s_bools fun H a bs Q sq q => ⟨a, bs, rfl, sq, q⟩
theorem s_any : OpS K (rAny K) oAny := s_bools fun H a bs Q sq q => ⟨a, bs, rfl, sq, q⟩
/-! ### dInts -/
def asIB : O → Option Int
  | .d (.int i) => some i
  | .d (.bl b) => some (if b then 1 else 0)
  | _ => none
abbrev oInt := op1 fun a => (asIB a).map fun i => .d (.int i)
theorem s_int : OpS K (fun xs H Q => (∃ i, xs = [.int i] ∧ Q (.int i) H) ∨ ∃ k, xs = [.bl k] ∧ Q (.int (if k then 1 else 0)) H) oInt := ops1 fun Γ σ e τ stk G H v a o Q rr h ho k => by
  obtain ⟨f, h⟩ := h
  cases h with
  | d h =>
    cases h with
    | int i =>
      cases ho
      exact .inl ⟨i, rfl, k _ G H (rr.pushD (.int _))⟩
    | bl b =>
      cases ho
      exact .inr ⟨b, rfl, k _ G H (rr.pushD (.int _))⟩
    | _ => cases ho
  | l => cases ho
  | t => cases ho
abbrev oAbs := op1 fun a => (asI a).map fun i => .d (.int (if i < 0 then -i else i))
theorem s_abs : OpS K (fun xs H Q => ∃ i, xs = [.int i] ∧ Q (.int (if i < 0 then -i else i)) H) oAbs := ops1 fun Γ σ e τ stk G H v a o Q rr h ho k => by
  cases e1 : asI a with
  | none => simp [e1] at ho
  | some i =>
    simp [e1] at ho
    subst ho
    obtain rfl := orep_int h e1
    exact ⟨i, rfl, k _ G H (rr.pushD (.int _))⟩
abbrev oMax2 := fI2 tt2 fun i j => .int (if i < j then j else i)
abbrev oMin2 := fI2 tt2 fun i j => .int (if j < i then j else i)
theorem ops_r2 {r : List V → Hp → VK → Prop} {f : List O → Option O} (h : OpS K (r2 fun x y => r [x, y]) f) (hf : ∀ os, os.length ≠ 2 → f os = none) : OpS K r f := by
  intro Γ σ e τ stk G H vs os o Q rr ha ho k
  match ha with
  | .nil => rw [hf _ (by simp)] at ho; cases ho
  | .cons _ .nil => rw [hf _ (by simp)] at ho; cases ho
  | .cons _ (.cons _ (.cons _ _)) => rw [hf _ (by simp)] at ho; cases ho
  | .cons h1 (.cons h2 .nil) => exact h Γ σ e τ stk G H _ _ o Q rr (.cons h1 (.cons h2 .nil)) ho k
theorem fI2_two {C : Int → Int → Bool} {g : Int → Int → D} : ∀ os : List O, os.length ≠ 2 → fI2 C g os = none
  | [], _ => rfl
  | [_], _ => rfl
  | [_, _], h => absurd rfl h
  | _ :: _ :: _ :: _, _ => rfl
theorem s_max2 : OpS K (fun xs H Q => ∃ i j, xs = [.int i, .int j] ∧ Q (.int (if j > i then j else i)) H) oMax2 := ops_r2 (ops_I2 (g := fun i j => .int (if i < j then j else i)) (fun i j H Q _ q => ⟨i, j, rfl, q⟩) fun _ _ _ => rfl) fI2_two
theorem s_min2 : OpS K (fun xs H Q => ∃ i j, xs = [.int i, .int j] ∧ Q (.int (if j < i then j else i)) H) oMin2 := ops_r2 (ops_I2 (g := fun i j => .int (if j < i then j else i)) (fun i j H Q _ q => ⟨i, j, rfl, q⟩) fun _ _ _ => rfl) fI2_two
/-! ### + of lists, of tuples -/
def oCat : List O → Option O
  | [a, b] => match tupF a, tupF b with
    | some xs, some ys => if xs.length + ys.length ≤ line then some (.d (.tup (xs ++ ys))) else none
    | _, _ => none
  | _ => none
theorem Reps.append {G : Hp} : ∀ {vs ws : List V} {xs ys : List D}, Reps K G vs xs → Reps K G ws ys → Reps K G (vs ++ ws) (xs ++ ys)
  | _, _, _, _, .nil, q => q
  | _, _, _, _, .cons h r, q => .cons h (r.append q)
theorem s_catT : OpS K (r2 (rCatA K)) oCat := by
  intro Γ σ e τ stk G H vs os o Q rr ha ho k
  match ha with
  | .nil => cases ho
  | .cons _ .nil => cases ho
  | .cons _ (.cons _ (.cons _ _)) => cases ho
  | @OAll.cons _ _ _ v a _ _ h1 (@OAll.cons _ _ _ w b _ _ h2 .nil) =>
    cases e1 : tupF a with
    | none => simp [oCat, e1] at ho
    | some xs =>
      cases e2 : tupF b with
      | none => simp [oCat, e1, e2] at ho
      | some ys =>
        by_cases hl : xs.length + ys.length ≤ line
        · simp only [oCat, e1, e2, if_pos hl] at ho
          cases ho
          obtain ⟨p, vs, rfl, sq, rp, sg⟩ := tupF_of rr.wd.sub h1 e1
          obtain ⟨p', vs', rfl, sq', rp', sg'⟩ := tupF_of rr.wd.sub h2 e2
          refine ⟨p, p', vs, vs', rfl, rfl, sq, sq', line_eq (by rw [rp.length, rp'.length]; exact hl), fun z => ?_, fun z z' => ?_, fun _ _ l hl => ?_⟩
          · subst z
            cases rp
            exact k _ G H (rr.pushD (.tup sg' rp'))
          · subst z'
            cases rp'
            rw [List.append_nil] at k
            exact k _ G H (rr.pushD (.tup sg rp))
          · exact k _ _ _ (rr.mkT (rp.append rp') hl)
        · simp only [oCat, e1, e2, if_neg hl] at ho
          cases ho
/-- lists that may still change, or that stay (not the script) -/
def lstM : O → Option (List D)
  | .d (.lst xs) => some xs
  | .l os => allD os
  | _ => none
theorem lstM_of {G H : Hp} (e : Sub G H) {v : V} {o : O} {xs : List D} (h : ∃ f, ORep K G H v o f) (hx : lstM o = some xs) : ∃ a vs, v = .ref a ∧ H a = some (.lst vs) ∧ Reps K G vs xs := by
  obtain ⟨f, h⟩ := h
  cases h with
  | d h =>
    cases h with
    | lst h r =>
      cases hx
      exact ⟨_, _, rfl, e _ _ h, r⟩
    | tup => cases hx
    | _ => cases hx
  | l h g r => exact ⟨_, _, rfl, h, allD_of r hx⟩
  | t => cases hx
def oCatL : List O → Option O
  | [a, b] => match lstM a, lstM b with
    | some xs, some ys => if xs.length + ys.length ≤ line then some (.l ((xs ++ ys).map O.d)) else none
    | _, _ => none
  | _ => none
theorem s_catL : OpS K (r2 rCat) oCatL := by
  intro Γ σ e τ stk G H vs os o Q rr ha ho k
  match ha with
  | .nil => cases ho
  | .cons _ .nil => cases ho
  | .cons _ (.cons _ (.cons _ _)) => cases ho
  | @OAll.cons _ _ _ v a _ _ h1 (@OAll.cons _ _ _ w b _ _ h2 .nil) =>
    cases e1 : lstM a with
    | none => simp [oCatL, e1] at ho
    | some xs =>
      cases e2 : lstM b with
      | none => simp [oCatL, e1, e2] at ho
      | some ys =>
        by_cases hl : xs.length + ys.length ≤ line
        · simp only [oCatL, e1, e2, if_pos hl] at ho
          cases ho
          obtain ⟨p, vs, rfl, sq, rp⟩ := lstM_of rr.wd.sub h1 e1
          obtain ⟨p', vs', rfl, sq', rp'⟩ := lstM_of rr.wd.sub h2 e2
          exact ⟨p, p', vs, vs', rfl, rfl, sq, sq', line_eq (by rw [rp.length, rp'.length]; exact hl), fun l hl => k _ _ _ (rr.mkL (rp.append rp') hl)⟩
        · simp only [oCatL, e1, e2, if_neg hl] at ho
          cases ho
end
end Dn
end
section
set_option Elab.async false
set_option linter.all false
set_option maxRecDepth 100000
set_option maxHeartbeats 4000000
/-! Dn5: what a def promises, calls. -/
namespace Dn
open PySem PySem.Spec L2
open PyProof.Rows hiding St
def noPin : Nat → Option V := fun _ => none
/-- a def of n parameters is worth f -/
def FP (K : PySem.W.Frag) (mg : Str → Option Value) (n : Nat) (f : List O → FR) : Sp := fun vs H Q E => vs.length = n ∧ ∃ (os : List O) (fp : List Addr) (G : Hp), Sub G H ∧ Cells K G H (vs.map some) (os.map some) fp ∧ fp.Nodup ∧
  match f os with
  | .ok o as => ∀ v G' H', R K ⟨H, G, fp, noPin⟩ (vs.map some) as [some v] [some o] G' H' → Q v H'
  | .exc x as => ∀ c d G' H', R K ⟨H, G, fp, noPin⟩ (vs.map some) as [] [] G' H' → XRep K mg G' H' x c d → E c d H'
  | .fail => False
def lendA : List AK → List (Option O) → Env → Option (List O × Env)
  | [], _, e => some ([], e)
  | .nm i :: ks, cs, e => match e[i]? with
    | some (some (.d x)) => (lendA ks cs.tail e).map fun p => (.d x :: p.1, p.2)
    | some (some (.l l)) => (lendA ks cs.tail (e.set i none)).map fun p => (.l l :: p.1, p.2)
    | _ => none
  | .ex _ :: ks, cs, e => match cs.headD none with
    | some o => (lendA ks cs.tail e).map fun p => (o :: p.1, p.2)
    | none => none
def backA : List AK → Env → Env → Env → Env
  | [], _, _, e' => e'
  | .nm i :: ks, as, e, e' => match e[i]? with
    | some (some (.l _)) => match as.headD none with
      | some o => backA ks as.tail e (e'.set i (some o))
      | none => backA ks as.tail e e'
    | _ => backA ks as.tail e e'
  | .ex _ :: ks, as, e, e' => backA ks as.tail e e'
def mCall (f : List O → FR) (ks : List AK) : ME := fun env => match evalA ks env with
  | .ok cs e => match lendA ks cs e with
    | some (os, e') => match f os with
      | .ok o as => .ok o (backA ks as e e')
      | .exc x as => .exc x (backA ks as e e')
      | .fail => .fail
    | none => .fail
  | .exc x e => .exc x e
  | .fail => .fail
section
variable {X : Cx} {W : WX} {np : Asm} {K : PySem.W.Frag} {mg : Str → Option Value}
section
variable {Γ : Ctx} {σ : St} {env : Env} {τ : List (Option V)} {stk : Env} {G H G' H' : Hp}
/-- the top goes under the next part -/
theorem R.unrot {vs : List (Option V)} {os : Env} {v : Option V} {o : Option O} (r : R K Γ σ env (v :: (vs ++ τ)) (o :: (os ++ stk)) G H) (hl : vs.length = os.length) : R K Γ σ env (vs ++ v :: τ) (os ++ o :: stk) G H := by
  obtain ⟨f1, f2, c, s, n, m⟩ := r.ex
  cases s with
  | skip s =>
    obtain ⟨fa, fb, e, h1, h2⟩ := s.split hl
    subst e
    exact ⟨r.wd, r.pin, f1, fa ++ fb, c, h1.append (.skip h2), n, m⟩
  | @cons _ _ f _ _ fc q s =>
    obtain ⟨fa, fb, e, h1, h2⟩ := s.split hl
    subst e
    have pm : (f1 ++ (f ++ (fa ++ fb))).Perm (f1 ++ (fa ++ (f ++ fb))) := by
      refine List.Perm.append_left f1 ?_
      rw [← List.append_assoc, ← List.append_assoc]
      exact List.Perm.append_right _ List.perm_append_comm
    exact ⟨r.wd, r.pin, f1, fa ++ (f ++ fb), c, h1.append (.cons q h2), pm.nodup_iff.mp n, fun a h => m a (pm.mem_iff.mpr h)⟩
theorem R.lend : ∀ {ks : List AK} {vs : List V} {cs : List (Option O)} {os : List O} {env env' : Env} {pre : List (Option V)} {pres : Env}, pre.length = pres.length → R K Γ σ env (pre ++ (vs.map some ++ τ)) (pres ++ (cs ++ stk)) G H → cs.length = vs.length → areNm ks σ vs → lendA ks cs env = some (os, env') → R K Γ σ env' (pre ++ (vs.map some ++ τ)) (pres ++ (os.map some ++ stk)) G H
  | [], vs, cs, os, env, env', _, _, _, r, hl, hn, hr => by
    cases hn
    cases hr
    cases cs with
    | nil => exact r
    | cons => cases hl
  | k :: ks, ws, [], os, env, env', _, _, _, r, hl, hn, hr => by
    obtain ⟨v, vs, e, n1, n2⟩ := hn
    subst e
    cases hl
  | .ex m :: ks, ws, c :: cs, os, env, env', pre, pres, hpl, r, hl, hn, hr => by
    obtain ⟨v, vs, e, n1, n2⟩ := hn
    subst e
    cases c with
    | none => simp [lendA] at hr
    | some o =>
      cases q : lendA ks cs env with
      | none => simp [lendA, q] at hr
      | some p =>
        obtain ⟨os', e'⟩ := p
        simp [lendA, q] at hr
        obtain ⟨h1, h2⟩ := hr
        subst h1 h2
        have r' := R.lend (ks := ks) (vs := vs) (cs := cs) (pre := pre ++ [some v]) (pres := pres ++ [some o]) (by simp [hpl]) (by simpa using r) (Nat.succ.inj hl) n2 q
        simpa using r'
  | .nm i :: ks, ws, c :: cs, os, env, env', pre, pres, hpl, r, hl, hn, hr => by
    obtain ⟨v, vs, e, n1, n2⟩ := hn
    subst e
    have n1' : σ[i]? = some (some v) := n1
    unfold lendA at hr
    split at hr
    · rename_i x he
      cases q : lendA ks cs env with
      | none => simp [q] at hr
      | some p =>
        obtain ⟨os', e'⟩ := p
        simp [q] at hr
        obtain ⟨h1, h2⟩ := hr
        subst h1 h2
        obtain ⟨v', e1, rp⟩ := r.slotD he
        rw [e1] at n1'
        cases n1'
        have r1 : R K Γ σ env (some v :: (pre ++ (vs.map some ++ τ))) (c :: (pres ++ (cs ++ stk))) G H := R.rot (by simpa using r) hpl
        have r2 := R.unrot (r1.pop1.pushD rp) hpl
        have r' := R.lend (ks := ks) (vs := vs) (cs := cs) (pre := pre ++ [some v]) (pres := pres ++ [some (.d x)]) (by simp [hpl]) (by simpa using r2) (Nat.succ.inj hl) n2 q
        simpa using r'
    · rename_i l he
      cases q : lendA ks cs (env.set i none) with
      | none => simp [q] at hr
      | some p =>
        obtain ⟨os', e'⟩ := p
        simp [q] at hr
        obtain ⟨h1, h2⟩ := hr
        subst h1 h2
        have r1 : R K Γ σ env (some v :: (pre ++ (vs.map some ++ τ))) (c :: (pres ++ (cs ++ stk))) G H := R.rot (by simpa using r) hpl
        obtain ⟨v', e1, r2⟩ := r1.pop1.move he
        rw [e1] at n1'
        cases n1'
        have r3 := R.unrot r2 hpl
        have r' := R.lend (ks := ks) (vs := vs) (cs := cs) (pre := pre ++ [some v]) (pres := pres ++ [some (.l l)]) (by simp [hpl]) (by simpa using r3) (Nat.succ.inj hl) n2 q
        simpa using r'
    · cases hr
theorem R.giveback : ∀ {ks : List AK} {vs : List V} {as : Env} {e env : Env} {pre : List (Option V)} {pres : Env}, pre.length = pres.length → R K Γ σ env (pre ++ (vs.map some ++ τ)) (pres ++ (as ++ stk)) G H → as.length = vs.length → areNm ks σ vs → R K Γ σ (backA ks as e env) (pre ++ τ) (pres ++ stk) G H
  | [], vs, as, e, env, pre, pres, hpl, r, hl, hn => by
    cases hn
    cases as with
    | nil => exact r
    | cons => cases hl
  | k :: ks, ws, [], e, env, _, _, _, r, hl, hn => by
    obtain ⟨v, vs, e, n1, n2⟩ := hn
    subst e
    cases hl
  | .ex m :: ks, ws, a :: as, e, env, pre, pres, hpl, r, hl, hn => by
    obtain ⟨v, vs, ee, n1, n2⟩ := hn
    subst ee
    have r1 : R K Γ σ env (some v :: (pre ++ (vs.map some ++ τ))) (a :: (pres ++ (as ++ stk))) G H := R.rot (by simpa using r) hpl
    exact R.giveback (ks := ks) hpl r1.pop1 (Nat.succ.inj hl) n2
  | .nm i :: ks, ws, a :: as, e, env, pre, pres, hpl, r, hl, hn => by
    obtain ⟨v, vs, ee, n1, n2⟩ := hn
    subst ee
    have n1' : σ[i]? = some (some v) := n1
    have r1 : R K Γ σ env (some v :: (pre ++ (vs.map some ++ τ))) (a :: (pres ++ (as ++ stk))) G H := R.rot (by simpa using r) hpl
    unfold backA
    split
    · cases a with
      | none => exact R.giveback (ks := ks) hpl r1.pop1 (Nat.succ.inj hl) n2
      | some o => exact R.giveback (ks := ks) hpl (r1.back n1') (Nat.succ.inj hl) n2
    · exact R.giveback (ks := ks) hpl r1.pop1 (Nat.succ.inj hl) n2
/-- behind a call -/
theorem R.after {vs : List (Option V)} {os : Env} {as : Env} {ρ : List (Option V)} {rs : Env} {fa : List Addr} (r : R K Γ σ env (vs ++ τ) (os ++ stk) G H) (hl : vs.length = os.length)
    (hfa : ∀ f1 fb, Cells K G H σ env f1 → Cells K G H τ stk fb → True) {f1 fb : List Addr} (c : Cells K G H σ env f1) (h1 : Cells K G H vs os fa) (h2 : Cells K G H τ stk fb) (n : (f1 ++ (fa ++ fb)).Nodup) (m : Mine Γ (f1 ++ (fa ++ fb)))
    (r' : R K ⟨H, G, fa, noPin⟩ vs as ρ rs G' H') : R K Γ σ env (ρ ++ (vs ++ τ)) (rs ++ (as ++ stk)) G' H' := by
  obtain ⟨g1, g2, c', s', n', m'⟩ := r'.ex
  have own1 : ∀ a ∈ f1, (∃ x, H a = some x) ∧ a ∉ fa := fun a h => by
    obtain ⟨⟨x, e⟩, _⟩ := c.own a h
    exact ⟨⟨_, e⟩, fun z => (List.nodup_append.mp n).2.2 a h a (List.mem_append_left _ z) rfl⟩
  have own2 : ∀ a ∈ fb, (∃ x, H a = some x) ∧ a ∉ fa := fun a h => by
    obtain ⟨⟨x, e⟩, _⟩ := h2.own a h
    exact ⟨⟨_, e⟩, fun z => (List.nodup_append.mp (List.nodup_append.mp n).2.1).2.2 a z a h rfl⟩
  have keep : ∀ f : List Addr, (∀ a ∈ f, (∃ x, H a = some x) ∧ a ∉ fa) → Keep G H G' H' f := fun f hf => ⟨r'.wd.ext, fun a h => by
    obtain ⟨⟨x, e⟩, na⟩ := hf a h
    have q := r'.wd.fr a (by show H a ≠ none; rw [e]; exact fun z => by cases z) na
    exact ⟨q.1, fun z => q.2.trans z⟩⟩
  have w : Wd Γ G' H' := {
    sub := r'.wd.sub
    ext := r.wd.ext.trans r'.wd.ext
    fr := fun a h nm => by
      have q := r.wd.fr a h nm
      have na : a ∉ fa := fun z => by
        rcases m a (List.mem_append_right _ (List.mem_append_left _ z)) with y | y
        · exact nm y
        · exact h y
      have q' := r'.wd.fr a (by show H a ≠ none; rw [q.1]; exact h) na
      exact ⟨q'.1.trans q.1, q'.2.trans q.2⟩ }
  have apart : ∀ a, (a ∈ g1 ∨ a ∈ g2) → ∀ f : List Addr, (∀ a ∈ f, (∃ x, H a = some x) ∧ a ∉ fa) → a ∉ f := fun a ha f hf z => by
    obtain ⟨⟨x, e⟩, na⟩ := hf a z
    have ha' : a ∈ g1 ++ g2 := List.mem_append.mpr ha
    rcases m' a ha' with y | y
    · exact na y
    · have y' : H a = none := y
      rw [e] at y'
      cases y'
  have mine : ∀ a, (a ∈ g1 ∨ a ∈ g2) → a ∈ Γ.P ∨ Γ.H0 a = none := fun a ha => by
    rcases m' a (List.mem_append.mpr ha) with y | y
    · exact m a (List.mem_append_right _ (List.mem_append_left _ y))
    · exact Mine.of_fresh r.wd y
  have nd1 := List.nodup_append.mp n
  have nd2 := List.nodup_append.mp nd1.2.1
  have ndg := List.nodup_append.mp n'
  refine ⟨w, r.pin, f1, g2 ++ (g1 ++ fb), c.keep (keep f1 own1), s'.append (c'.append (h2.keep (keep fb own2))), ?_, fun a h => ?_⟩
  · refine List.nodup_append.mpr ⟨nd1.1, List.nodup_append.mpr ⟨ndg.2.1, List.nodup_append.mpr ⟨ndg.1, nd2.2.1, fun a ha b hb e => ?_⟩, fun a ha b hb e => ?_⟩, fun a ha b hb e => ?_⟩
    · subst e
      exact apart a (.inl ha) fb own2 hb
    · subst e
      rcases List.mem_append.mp hb with hb | hb
      · exact ndg.2.2 a hb a ha rfl
      · exact apart a (.inr ha) fb own2 hb
    · subst e
      rcases List.mem_append.mp hb with hb | hb
      · exact apart a (.inr hb) f1 own1 ha
      · rcases List.mem_append.mp hb with hb | hb
        · exact apart a (.inl hb) f1 own1 ha
        · exact nd1.2.2 a ha a (List.mem_append_right _ hb) rfl
  · rcases List.mem_append.mp h with h | h
    · exact m a (List.mem_append_left _ h)
    · rcases List.mem_append.mp h with h | h
      · exact mine a (.inr h)
      · rcases List.mem_append.mp h with h | h
        · exact mine a (.inl h)
        · exact m a (List.mem_append_right _ (List.mem_append_right _ h))
end
/-- a def's promise, met at a call -/
theorem call_fp {Γ : Ctx} {σ : St} {env e e' : Env} {τ : List (Option V)} {stk : Env} {G H : Hp} {Q : VK} {n : Nat} {f : List O → FR} {ks : List AK} {vs : List V} {os : List O} (r : R K Γ σ e' (vs.map some ++ τ) (os.map some ++ stk) G H) (hn : vs.length = n) (hl : os.length = vs.length) (hk : areNm ks σ vs)
    (h : RsQ K mg Γ W σ τ stk (fun o e => ∀ v G' H', R K Γ σ e (some v :: τ) (some o :: stk) G' H' → Q v H') (match f os with
      | .ok o as => .ok o (backA ks as e e')
      | .exc x as => .exc x (backA ks as e e')
      | .fail => .fail)) : FP K mg n f vs H Q (WE W σ) := by
  obtain ⟨f1, f2, c, s, nd, m⟩ := r.ex
  have hl' : (vs.map some).length = (os.map some).length := by simp [hl]
  obtain ⟨fa, fb, e1, h1, h2⟩ := s.split hl'
  subst e1
  refine ⟨hn, os, fa, G, r.wd.sub, h1, (List.nodup_append.mp (List.nodup_append.mp nd).2.1).1, ?_⟩
  cases q : f os with
  | ok o as =>
    simp only [q] at h ⊢
    intro v G' H' r'
    have r2 := R.after (ρ := [some v]) (rs := [some o]) r hl' (fun _ _ _ _ => trivial) c h1 h2 nd m r'
    have la := r'.len
    exact h v G' H' (R.giveback (ks := ks) (e := e) (pre := [some v]) (pres := [some o]) rfl r2 (by rw [← la, List.length_map]) hk)
  | exc x as =>
    simp only [q] at h ⊢
    intro cc d G' H' r' xr
    have r2 := R.after (ρ := []) (rs := []) r hl' (fun _ _ _ _ => trivial) c h1 h2 nd m r'
    have la := r'.len
    exact h cc d G' H' (R.giveback (ks := ks) (e := e) (pre := []) (pres := []) rfl r2 (by rw [← la, List.length_map]) hk) xr
  | fail =>
    simp only [q] at h
    exact False.elim h
theorem lendA_len : ∀ {ks : List AK} {cs : List (Option O)} {e e' : Env} {os : List O}, lendA ks cs e = some (os, e') → os.length = ks.length
  | [], _, _, _, _, h => by
    cases h
    rfl
  | .nm i :: ks, cs, e, e', os, h => by
    unfold lendA at h
    split at h
    · cases q : lendA ks cs.tail e with
      | none => simp [q] at h
      | some p =>
        simp [q] at h
        rw [← h.1]
        simp [lendA_len (os := p.1) (e' := p.2) q]
    · cases q : lendA ks cs.tail (e.set i none) with
      | none => simp [q] at h
      | some p =>
        simp [q] at h
        rw [← h.1]
        simp [lendA_len (os := p.1) (e' := p.2) q]
    · cases h
  | .ex m :: ks, cs, e, e', os, h => by
    unfold lendA at h
    split at h
    · cases q : lendA ks cs.tail e with
      | none => simp [q] at h
      | some p =>
        simp [q] at h
        rw [← h.1]
        simp [lendA_len (os := p.1) (e' := p.2) q]
    · cases h
theorem areNm_len : ∀ {ks : List AK} {σ : St} {vs : List V}, areNm ks σ vs → vs.length = ks.length
  | [], _, _, h => by
    cases h
    rfl
  | k :: ks, σ, ws, h => by
    obtain ⟨v, vs, e, n1, n2⟩ := h
    subst e
    simp [areNm_len n2]
theorem esnd_call {t : TA} {ks : List AK} {n : Nat} {f : List O → FR} (hn : ks.length = n) (h1 : ASnd K mg W np t ks) : ESnd K mg W np (tCallS (FP K mg n f) (WE W) t) (mCall f ks) := by
  intro Γ σ env τ stk G H Q hp r h
  refine h1 Γ σ env τ stk G H _ hp r ?_
  unfold mCall at h
  cases e1 : evalA ks env with
  | ok cs e =>
    simp only [e1] at h
    intro vs G1 H1 hl r1 n1
    cases e2 : lendA ks cs e with
    | none =>
      simp only [e2] at h
      exact False.elim h
    | some p =>
      obtain ⟨os, e'⟩ := p
      simp only [e2] at h
      have r2 := R.lend (pre := []) (pres := []) rfl r1 hl n1 e2
      exact call_fp (ks := ks) (e := e) (env := e) r2 ((areNm_len n1).trans hn) ((lendA_len e2).trans (areNm_len n1).symm) n1 h
  | exc x e =>
    simp only [e1] at h
    exact h
  | fail =>
    simp only [e1] at h
    exact h
/-- a call of a def by its name -/
theorem de_call {k n : Nat} {g : Addr} {fd : FuncData} {ps : List Str} {f : List O → FR} {x : Str} {e : Expr} {es : List Expr} {p pos : Pos} {ks : List AK} (F : FnOk X.prog X.w X.K X.mg X.base (L2N.CX X.prog X.w) k g fd ps (FP X.K X.mg n f)) (hr : Room k X.A) (hm : X.mg x = some (.ref g)) (hk : PySem.W.keepIn X.K (.ref g) = true) (hb : Binds X.K fd ps [])
    (tk : L2N.Takes X W) (ha : DA X W np (e :: es) ks) (hn : ks.length = n := by rfl) (hg : Gl X x := by rfl) (hdb : (x == ("__debug__" : Str)) = false := by decide) (he : starEach (e :: es) X.env = (false, eval e X.env) :: starEach es X.env := by rfl) (hpl : (backTo pos (starEach es X.env)).any (·.1) = false := by rfl) :
    DE X W np (.Call (.Name x p) (e :: es) [] pos) (mCall f ks) := by
  obtain ⟨t, q, s⟩ := ha.ex
  exact ⟨_, pe_callS F hr hg hm hk hb (fun σ => L2N.passAt tk σ) q hdb (by exact he) (by exact hpl), esnd_call hn s⟩
end
end Dn
end
section
set_option Elab.async false
set_option linter.all false
set_option maxRecDepth 100000
set_option maxHeartbeats 4000000
/-! Dn6: statements, loops. -/
namespace Dn
open PySem PySem.Spec L2
open PyProof.Rows hiding St
def mPass : MS := fun e => .nx e
def mSeq (a b : MS) : MS := fun e => match a e with
  | .nx e1 => b e1
  | r => r
/-- an expression's value goes on -/
def onE (r : Rs O) (k : O → Env → SR) : SR := match r with
  | .ok o e => k o e
  | .exc x e => .exc x e
  | .fail => .fail
def onT (r : Rs Bool) (k : Bool → Env → SR) : SR := match r with
  | .ok o e => k o e
  | .exc x e => .exc x e
  | .fail => .fail
def putE (i : Nat) (o : O) (e : Env) : SR := if i < e.length then .nx (e.set i (some o)) else .fail
def mSet (i : Nat) (m : ME) : MS := fun e => onE (m e) (putE i)
def mRet (m : ME) : MS := fun e => onE (m e) .rt
def mRetN : MS := fun e => .rt (.d .non) e
def mExpr (m : ME) : MS := fun e => onE (m e) fun _ e1 => .nx e1
def mIf (c : Env → Rs Bool) (a b : MS) : MS := fun e => onT (c e) fun t e1 => if t then a e1 else b e1
def mIfE (c : Env → Rs Bool) (a b : ME) : ME := fun e => match c e with
  | .ok t e1 => if t then a e1 else b e1
  | .exc x e => .exc x e
  | .fail => .fail
def loopW (c : Env → Rs Bool) (b : MS) : Nat → Env → SR
  | 0, _ => .fail
  | n + 1, e => onT (c e) fun t e1 => if t then match b e1 with
      | .nx e2 => loopW c b n e2
      | .ct e2 => loopW c b n e2
      | .bk e2 => .nx e2
      | r => r
    else .nx e1
def mWhile (fuel : Env → Nat) (c : Env → Rs Bool) (b : MS) : MS := fun e => loopW c b (fuel e) e
/-- where an item goes -/
abbrev MG := Env → D → Option Env
def gN (i : Nat) : MG := fun e x => if i < e.length then some (e.set i (some (.d x))) else none
def gsT : List MG → Env → List D → Option Env
  | [], e, [] => some e
  | g :: gs, e, x :: xs => (g e x).bind fun e1 => gsT gs e1 xs
  | _, _, _ => none
def gT (gs : List MG) : MG := fun e x => match x with
  | .tup xs => gsT gs e xs
  | _ => none
def forL (g : MG) (b : MS) : List D → Env → SR
  | [], e => .nx e
  | x :: xs, e => match g e x with
    | none => .fail
    | some e1 => match b e1 with
      | .nx e2 => forL g b xs e2
      | .ct e2 => forL g b xs e2
      | .bk e2 => .nx e2
      | r => r
def mFor (it : Env → Rs (List D)) (g : MG) (b : MS) : MS := fun e => match it e with
  | .ok xs e1 => forL g b xs e1
  | .exc x e => .exc x e
  | .fail => .fail
def mUnp (m : ME) (g : MG) : MS := fun e => onE (m e) fun o e1 => match o with
  | .d x => match g e1 x with
    | some e2 => .nx e2
    | none => .fail
  | _ => .fail
section
variable {X : Cx} {W : WX} {np : Asm} {K : PySem.W.Frag} {mg : Str → Option Value}
theorem SRQ.imp {Γ : Ctx} {D D' : Ends} {r : SR} (h : SRQ K mg W Γ D r) (h1 : ∀ σ H, D.nx σ H → D'.nx σ H) (h2 : ∀ v H, D.rt v H → D'.rt v H) (h3 : ∀ σ H, D.bk σ H → D'.bk σ H) (h4 : ∀ σ H, D.ct σ H → D'.ct σ H) : SRQ K mg W Γ D' r := by
  cases r with
  | nx e => exact fun σ' G' H' r => h1 _ _ (h σ' G' H' r)
  | rt o e => exact fun σ' v G' H' r => h2 _ _ (h σ' v G' H' r)
  | bk e => exact fun σ' G' H' r => h3 _ _ (h σ' G' H' r)
  | ct e => exact fun σ' G' H' r => h4 _ _ (h σ' G' H' r)
  | exc x e => exact h
  | fail => exact h
theorem dss_nil : DSs X W np [] mPass := ⟨_, pss_nil, fun Γ σ env G H D hp r h => h σ G H r⟩
theorem dss_one {st : Stmt} {m : MS} (h : DS X W np st m) : DSs X W np [st] m := by
  obtain ⟨t, p, s⟩ := h.ex
  exact ⟨_, pss_one p, s⟩
theorem dss_cons {st : Stmt} {rest : List Stmt} {m n : MS} (h : DS X W np st m) (g : DSs X W np rest n) : DSs X W np (st :: rest) (mSeq m n) := by
  obtain ⟨t, p, s⟩ := h.ex
  obtain ⟨u, q, z⟩ := g.ex
  refine ⟨_, pss_cons p q, fun Γ σ env G H D hp r h => ?_⟩
  refine s Γ σ env G H _ hp r ?_
  unfold mSeq at h
  cases e : m env with
  | nx e1 =>
    rw [e] at h
    exact fun σ' G' H' r' => z Γ σ' e1 G' H' D hp r' h
  | rt o e1 =>
    rw [e] at h
    exact h
  | bk e1 =>
    rw [e] at h
    exact h
  | ct e1 =>
    rw [e] at h
    exact h
  | exc x e1 =>
    rw [e] at h
    exact h
  | fail =>
    rw [e] at h
    exact h
theorem ds_pass {pos : Pos} : DS X W np (.Pass pos) mPass := ⟨_, ps_pass, fun Γ σ env G H D hp r h => h σ G H r⟩
theorem ds_break {pos : Pos} : DS X W np (.Break pos) (fun e => .bk e) := ⟨_, ps_break, fun Γ σ env G H D hp r h => h σ G H r⟩
theorem ds_cont {pos : Pos} : DS X W np (.Continue pos) (fun e => .ct e) := ⟨_, ps_continue, fun Γ σ env G H D hp r h => h σ G H r⟩
/-- an expression's outcome, for a statement -/
theorem onE_q {Γ : Ctx} {σ : St} {D : Ends} {r : Rs O} {k : O → Env → SR} (h : SRQ K mg W Γ D (onE r k)) : RsQ K mg Γ W σ [] [] (fun o e => SRQ K mg W Γ D (k o e)) r := by
  cases r with
  | ok o e => exact h
  | exc x e => exact fun c d G' H' r q => h σ c d G' H' r q
  | fail => exact h
theorem onT_q {Γ : Ctx} {σ : St} {D : Ends} {r : Rs Bool} {k : Bool → Env → SR} (h : SRQ K mg W Γ D (onT r k)) : RsQ K mg Γ W σ [] [] (fun o e => SRQ K mg W Γ D (k o e)) r := by
  cases r with
  | ok o e => exact h
  | exc x e => exact fun c d G' H' r q => h σ c d G' H' r q
  | fail => exact h
theorem ssnd_set {i : Nat} {t : TE} {m : ME} (hi : i ∉ np.np) (s : ESnd K mg W np t m) : SSnd K mg W np (tAsg t (gName i)) (mSet i m) := by
  intro Γ σ env G H D hp r h
  refine s Γ σ env [] [] G H _ hp r ((onE_q h).imp fun o e q v G' H' r' => ?_)
  unfold putE at q
  split at q
  · rename_i hl
    have pn : Γ.pin i = none := by
      cases e : Γ.pin i with
      | none => rfl
      | some v => exact absurd (hp.1 i v e) hi
    exact q _ G' H' (r'.store hl pn)
  · exact False.elim q
theorem ds_set {i : Nat} {x : Str} {e : Expr} {m : ME} {pos pos' : Pos} (hN : X.N.Nodup) (h : DE X W np e m) (hi : i ∉ np.np := by decide) (hx : X.N[i]? = some x := by rfl) (hl : Loc X.env.scope x := by first | exact Or.inl rfl | exact Or.inr rfl) (hs : swapsWith e (some (.Name x pos')) pos.line X.env = pure false := by rfl) (hf : X.fn x = true ∨ X.env.scope.names.lookup x = some .local := by first | exact .inl rfl | exact .inr rfl) : DS X W np (.Assign [.Name x pos'] e pos) (mSet i m) := by
  obtain ⟨t, p, s⟩ := h.ex
  exact ⟨_, ps_set hN hx hl p hs hf, ssnd_set hi s⟩
theorem ds_ret {e : Expr} {m : ME} {pos : Pos} (h : DE X W np e m) : DS X W np (.Return (some e) pos) (mRet m) := by
  obtain ⟨t, p, s⟩ := h.ex
  refine ⟨_, ps_ret p, fun Γ σ env G H D hp r h => ?_⟩
  exact s Γ σ env [] [] G H _ hp r ((onE_q h).imp fun o e q v G' H' r' => q σ v G' H' r')
theorem ds_retN {pos : Pos} : DS X W np (.Return none pos) mRetN := ⟨_, ps_retN, fun Γ σ env G H D hp r h => h σ .non G H (r.pushD .non)⟩
theorem ds_expr {e : Expr} {m : ME} {pos : Pos} (h : DE X W np e m) (hs : swapsWith e none pos.line X.env = pure false := by rfl) : DS X W np (.Expr e pos) (mExpr m) := by
  obtain ⟨t, p, s⟩ := h.ex
  refine ⟨_, ps_expr p hs, fun Γ σ env G H D hp r h => ?_⟩
  exact s Γ σ env [] [] G H _ hp r ((onE_q h).imp fun o e q v G' H' r' => q σ G' H' r'.pop)
theorem ds_if {c : Expr} {a b : List Stmt} {mc : Env → Rs Bool} {ma mb : MS} {pos : Pos} (hc : DT X W np c mc) (ha : DSs X W np a ma) (hb : DSs X W np b mb) : DS X W np (.If c a b pos) (mIf mc ma mb) := by
  obtain ⟨t, p, s⟩ := hc.ex
  obtain ⟨t1, p1, s1⟩ := ha.ex
  obtain ⟨t2, p2, s2⟩ := hb.ex
  refine ⟨_, ps_if p p1 p2, fun Γ σ env G H D hp r h => ?_⟩
  refine s Γ σ env [] [] G H _ hp r ((onT_q h).imp fun b e q G' H' r' => ?_)
  cases b with
  | true =>
    rw [if_pos rfl] at q ⊢
    exact s1 Γ σ e G' H' D hp r' q
  | false =>
    rw [if_neg Bool.false_ne_true] at q ⊢
    exact s2 Γ σ e G' H' D hp r' q
theorem de_ifE {c a b : Expr} {mc : Env → Rs Bool} {ma mb : ME} {pos : Pos} (hc : DT X W np c mc) (ha : DE X W np a ma) (hb : DE X W np b mb) : DE X W np (.IfExp c a b pos) (mIfE mc ma mb) := by
  obtain ⟨t, p, s⟩ := hc.ex
  obtain ⟨t1, p1, s1⟩ := ha.ex
  obtain ⟨t2, p2, s2⟩ := hb.ex
  refine ⟨_, pe_ifExp p p1 p2, fun Γ σ env τ stk G H Q hp r h => ?_⟩
  refine s Γ σ env τ stk G H _ hp r ?_
  unfold mIfE at h
  cases e : mc env with
  | ok b e1 =>
    rw [e] at h
    intro G' H' r'
    cases b with
    | true => exact s1 Γ σ e1 τ stk G' H' Q hp r' h
    | false => exact s2 Γ σ e1 τ stk G' H' Q hp r' h
  | exc x e1 =>
    rw [e] at h
    exact h
  | fail =>
    rw [e] at h
    exact h
theorem ds_while {c : Expr} {body : List Stmt} {mc : Env → Rs Bool} {mb : MS} {pos : Pos} (fuel : Env → Nat) (po : PassesOwn (model X.prog X.w) X.A X.env X.xe) (hc : DT X W np c mc) (hb : DSs X W np body mb) : DS X W np (.While c body [] pos) (mWhile fuel mc mb) := by
  obtain ⟨t, p, s⟩ := hc.ex
  obtain ⟨t1, p1, s1⟩ := hb.ex
  refine ⟨_, ps_while po p p1, fun Γ σ env G H D hp r h => ?_⟩
  refine ⟨fun n σ H => ∃ G env, R X.K Γ σ env [] [] G H ∧ SRQ X.K X.mg W Γ D (loopW mc mb n env), ⟨fuel env, G, env, r, h⟩, ?_⟩
  rintro n σ H ⟨G, env, r, h⟩
  cases n with
  | zero => exact False.elim h
  | succ n =>
    unfold loopW at h
    refine s Γ σ env [] [] G H _ hp r ((onT_q h).imp fun b e q G' H' r' => ?_)
    cases b with
    | false =>
      rw [if_neg Bool.false_ne_true] at q ⊢
      exact q σ G' H' r'
    | true =>
      rw [if_pos rfl] at q ⊢
      refine ⟨fun σ' H' => ∃ G env, R X.K Γ σ' env [] [] G H' ∧ SRQ X.K X.mg W Γ D (loopW mc mb n env), fun σ' H' ⟨G, env, r, h⟩ => ⟨n, Nat.lt_succ_self n, G, env, r, h⟩, ?_⟩
      refine s1 Γ σ e G' H' _ hp r' ?_
      cases eb : mb e with
      | nx e2 =>
        simp only [eb] at q
        exact fun σ' G' H' r => ⟨G', e2, r, q⟩
      | ct e2 =>
        simp only [eb] at q
        exact fun σ' G' H' r => ⟨G', e2, r, q⟩
      | bk e2 =>
        simp only [eb] at q
        exact fun σ' G' H' r => q σ' G' H' r
      | rt o e2 =>
        simp only [eb] at q
        exact q
      | exc x e2 =>
        simp only [eb] at q
        exact q
      | fail =>
        simp only [eb] at q
        exact q
/-! ### targets -/
def GSnd (K : PySem.W.Frag) (np : Asm) (t : TG) (g : MG) : Prop := ∀ (Γ : Ctx) (σ : St) (e e1 : Env) (τ : List (Option V)) (stk : Env) (G H : Hp) (v : V) (x : D) (Q : St → Hp → Prop), PinOk Γ np → R K Γ σ e τ stk G H → Rep K G v x → g e x = some e1 → (∀ σ', R K Γ σ' e1 τ stk G H → Q σ' H) → t v σ H Q
def GsSnd (K : PySem.W.Frag) (np : Asm) (t : TGs) (gs : List MG) : Prop := ∀ (Γ : Ctx) (σ : St) (e e1 : Env) (τ : List (Option V)) (stk : Env) (G H : Hp) (vs : List V) (xs : List D) (Q : St → Hp → Prop), PinOk Γ np → R K Γ σ e τ stk G H → Reps K G vs xs → gsT gs e xs = some e1 → (∀ σ', R K Γ σ' e1 τ stk G H → Q σ' H) → t vs σ H Q
structure DG (X : Cx) (np : Asm) (tg : Expr) (g : MG) : Prop where
  ex : ∃ t, PG X tg t ∧ GSnd X.K np t g
structure DGs (X : Cx) (np : Asm) (tg : List Expr) (g : List MG) : Prop where
  ex : ∃ t, PGs X tg t ∧ GsSnd X.K np t g
theorem gsnd_n {i : Nat} (hi : i ∉ np.np) : GSnd K np (gName i) (gN i) := by
  intro Γ σ e e1 τ stk G H v x Q hp r rx h k
  unfold gN at h
  split at h
  · rename_i hl
    cases h
    have pn : Γ.pin i = none := by
      cases e : Γ.pin i with
      | none => rfl
      | some v => exact absurd (hp.1 i v e) hi
    exact k _ ((r.pushD rx).store hl pn)
  · cases h
theorem dg_n {i : Nat} {x : Str} {pos : Pos} (hN : X.N.Nodup) (hi : i ∉ np.np := by decide) (hx : X.N[i]? = some x := by rfl) (hl : Loc X.env.scope x := by first | exact Or.inl rfl | exact Or.inr rfl) (hf : X.fn x = true ∨ X.env.scope.names.lookup x = some .local := by first | exact .inl rfl | exact .inr rfl) : DG X np (.Name x pos) (gN i) :=
  ⟨_, pg_name hN hx hl hf, gsnd_n hi⟩
end
end Dn
end
section
set_option Elab.async false
set_option linter.all false
set_option maxRecDepth 100000
set_option maxHeartbeats 4000000
/-! Dn7: tuple targets, what is walked, for, comprehensions. -/
namespace Dn
open PySem PySem.Spec L2
open PyProof.Rows hiding St
section
variable {X : Cx} {W : WX} {np : Asm} {K : PySem.W.Frag} {mg : Str → Option Value}
theorem dgs_nil : DGs X np [] [] := ⟨_, pgs_nil, fun Γ σ e e1 τ stk G H vs xs Q hp r rx h k => by
  cases rx with
  | nil =>
    cases h
    exact ⟨rfl, k σ r⟩
  | cons => cases h⟩
theorem gsnd_cons {t : TG} {u : TGs} {g : MG} {gs : List MG} (h1 : GSnd K np t g) (h2 : GsSnd K np u gs) : GsSnd K np (gCons t u) (g :: gs) := by
  intro Γ σ e e1 τ stk G H vs xs Q hp r rx h k
  cases rx with
  | nil => cases h
  | @cons v x vs xs q rx =>
    unfold gsT at h
    cases q1 : g e x with
    | none => rw [q1] at h; cases h
    | some e' =>
      rw [q1] at h
      exact ⟨v, vs, rfl, h1 Γ σ e e' τ stk G H v x _ hp r q q1 fun σ' r' => h2 Γ σ' e' e1 τ stk G H vs xs Q hp r' rx h k⟩
theorem dgs_cons {e : Expr} {es : List Expr} {g : MG} {gs : List MG} (h1 : DG X np e g) (h2 : DGs X np es gs) (hs : (assignEach (e :: es) X.env).map (·.2) = assign e X.env :: (assignEach es X.env).map (·.2) := by rfl) : DGs X np (e :: es) (g :: gs) := by
  obtain ⟨t, p, s⟩ := h1.ex
  obtain ⟨u, q, z⟩ := h2.ex
  exact ⟨_, pgs_cons p q (by exact hs), gsnd_cons s z⟩
theorem gsT_len : ∀ {gs : List MG} {e e1 : Env} {xs : List D}, gsT gs e xs = some e1 → xs.length = gs.length
  | [], _, _, [], _ => rfl
  | [], _, _, _ :: _, h => by cases h
  | _ :: _, _, _, [], h => by cases h
  | g :: gs, e, e1, x :: xs, h => by
    unfold gsT at h
    cases q : g e x with
    | none => rw [q] at h; cases h
    | some e' =>
      rw [q] at h
      simp [gsT_len (gs := gs) h]
theorem dg_t {es : List Expr} {k : Nat} {gs : List MG} {pos : Pos} (hc : X.calm = true) (h : DGs X np es gs) (hn : (assignEach es X.env).length = gs.length := by rfl) (hst : (assignEach es X.env).findIdx? (·.1) = none := by rfl) : DG X np (.Tuple es k pos) (gT gs) := by
  obtain ⟨t, p, s⟩ := h.ex
  refine ⟨_, pg_tup hc p hn hst, fun Γ σ e e1 τ stk G H v x Q hp r rx h k => ?_⟩
  cases rx with
  | @tup a vs xs hq rx =>
    refine ⟨a, vs, rfl, r.wd.sub.sqT hq, rx.length.trans (gsT_len h), s Γ σ e e1 τ stk G H vs xs Q hp r rx h k⟩
  | _ => cases h
theorem ds_unp {tg e : Expr} {m : ME} {g : MG} {pos : Pos} (h : DE X W np e m) (hg : DG X np tg g) (hs : swapsWithSole [tg] e pos.line X.env = pure false := by rfl) (hw : swappedStores [tg] e X.env = pure none := by rfl) (h1 : (assignEach [tg] X.env).map (·.2) = [assign tg X.env] := by rfl) : DS X W np (.Assign [tg] e pos) (mUnp m g) := by
  obtain ⟨t, p, s⟩ := h.ex
  obtain ⟨u, q, z⟩ := hg.ex
  refine ⟨_, ps_asg p q hs hw h1, fun Γ σ env G H D hp r h => ?_⟩
  refine s Γ σ env [] [] G H _ hp r ((onE_q h).imp fun o e qq v G' H' r' => ?_)
  cases o with
  | l => exact False.elim qq
  | t => exact False.elim qq
  | d x =>
    simp only at qq
    cases e2 : g e x with
    | none => simp only [e2] at qq; exact False.elim qq
    | some e3 =>
      simp only [e2] at qq
      exact z Γ σ e e3 [] [] G' H' v x _ hp r'.pop r'.topD e2 fun σ' r2 => qq σ' G' H' r2
/-! ### what is walked -/
/-- while G and what is more stays, J walks xs; a pair may be new -/
def Wk (K : PySem.W.Frag) (G0 : Hp) (J : It) (xs : List D) : Prop := ∀ (G H : Hp), Sub G0 G → Sub G H →
  (∀ i, i < xs.length → J.go i H) ∧ J.stop xs.length H ∧ ∀ (i : Nat) (x : D), xs[i]? = some x → ∀ v H', J.yld i H v H' →
    (H' = H ∧ Rep K G v x) ∨ ∃ (T : Addr) (vs : List V) (ys : List D), v = .ref T ∧ H T = none ∧ H' = upd H T (.tup vs) ∧ x = .tup ys ∧ Reps K G vs ys
def ISnd (K : PySem.W.Frag) (mg : Str → Option Value) (W : WX) (np : Asm) (t : TI) (m : Env → Rs (List D)) : Prop := ∀ (Γ : Ctx) (σ : St) (env : Env) (τ : List (Option V)) (stk : Env) (G H : Hp) (Q : It → Hp → Prop), PinOk Γ np → R K Γ σ env τ stk G H →
  RsQ K mg Γ W σ τ stk (fun xs e => ∀ J G' H', R K Γ σ e τ stk G' H' → Wk K G' J xs → Q J H') (m env) → t σ H Q
structure DI (X : Cx) (W : WX) (np : Asm) (tg it : Expr) (m : Env → Rs (List D)) : Prop where
  ex : ∃ t, PI X tg it t ∧ ISnd X.K X.mg W np t m
/-- a value's items -/
def mIt (f : D → Option (List D)) (m : ME) : Env → Rs (List D) := fun e => match m e with
  | .ok o e1 => match f (frz o) with
    | some xs => .ok xs e1
    | none => .fail
  | .exc x e => .exc x e
  | .fail => .fail
theorem mIt_q {Γ : Ctx} {σ : St} {τ : List (Option V)} {stk : Env} {P : List D → Env → Prop} {f : D → Option (List D)} {m : ME} {env : Env} (h : RsQ K mg Γ W σ τ stk P (mIt f m env)) : RsQ K mg Γ W σ τ stk (fun o e => ∃ xs, f (frz o) = some xs ∧ P xs e) (m env) := by
  unfold mIt at h
  cases q : m env with
  | ok o e =>
    simp only [q] at h
    cases q2 : f (frz o) with
    | none => simp only [q2] at h; exact False.elim h
    | some xs =>
      simp only [q2] at h
      exact ⟨xs, q2, h⟩
  | exc x e =>
    simp only [q] at h
    exact h
  | fail =>
    simp only [q] at h
    exact h
def itL : D → Option (List D)
  | .lst xs => some xs
  | .scr xs => some xs
  | _ => none
def itT : D → Option (List D)
  | .tup xs => some xs
  | _ => none
theorem itL_of {G : Hp} {v : V} {x : D} {xs : List D} (r : Rep K G v x) (h : itL x = some xs) : ∃ a vs, v = .ref a ∧ SqL K G a vs ∧ Reps K G vs xs := by
  cases r with
  | lst hq r =>
    cases h
    exact ⟨_, _, rfl, .inl (.inl hq), r⟩
  | scr hq r =>
    cases h
    exact ⟨_, _, rfl, hq, r⟩
  | _ => cases h
theorem itT_of {G : Hp} {v : V} {x : D} {xs : List D} (r : Rep K G v x) (h : itT x = some xs) : ∃ a vs, v = .ref a ∧ SqT K G a vs ∧ Reps K G vs xs := by
  cases r with
  | tup hq r =>
    cases h
    exact ⟨_, _, rfl, hq, r⟩
  | _ => cases h
theorem wk_at {G0 : Hp} {J : It} {n : Nat} {Gd : Hp → Prop} {vs : List V} {xs : List D} (w : Walk J n Gd (YAt vs)) (rp : Reps K G0 vs xs) (hn : n = vs.length) (hg : ∀ G H, Sub G0 G → Sub G H → Gd H) : Wk K G0 J xs := by
  intro G H s1 s2
  have g := hg G H s1 s2
  have hl := rp.length
  refine ⟨fun i hi => w.goes i H (by omega) g, by rw [← hl, ← hn]; exact w.stops H g, fun i x hx v H' y => ?_⟩
  have hi : i < xs.length := (List.getElem?_eq_some_iff.mp hx).1
  obtain ⟨e1, e2⟩ := w.yields i H v H' (by omega) g y
  obtain ⟨z, h1, h2⟩ := rp.getV e2
  rw [hx] at h1
  cases h1
  exact .inl ⟨e1, h2.mono s1⟩
theorem di_list {tg e : Expr} {m : ME} (h : DE X W np e m) : DI X W np tg e (mIt itL m) := by
  obtain ⟨t, p, s⟩ := h.ex
  refine ⟨_, pi_list p, fun Γ σ env τ stk G H Q hp r h => s Γ σ env τ stk G H _ hp r ((mIt_q h).imp fun o e ⟨xs, e1, q⟩ v G' H' r' => ?_)⟩
  obtain ⟨G2, r2⟩ := r'.frz
  obtain ⟨a, vs, rfl, sq, rp⟩ := itL_of r2.topD e1
  exact ⟨a, rfl, ⟨vs, r2.wd.sub.sqL sq⟩, q _ G2 H' r2.pop (wk_at walk_list rp rfl fun G H s1 s2 => s2.sqL (s1.sqL sq))⟩
theorem di_tup {tg e : Expr} {m : ME} (h : DE X W np e m) : DI X W np tg e (mIt itT m) := by
  obtain ⟨t, p, s⟩ := h.ex
  refine ⟨_, pi_tup p, fun Γ σ env τ stk G H Q hp r h => s Γ σ env τ stk G H _ hp r ((mIt_q h).imp fun o e ⟨xs, e1, q⟩ v G' H' r' => ?_)⟩
  obtain ⟨G2, r2⟩ := r'.frz
  obtain ⟨a, vs, rfl, sq, rp⟩ := itT_of r2.topD e1
  exact ⟨a, rfl, ⟨vs, r2.wd.sub.sqT sq⟩, q _ G2 H' r2.pop (wk_at walk_tup rp rfl fun G H s1 s2 => s2.sqT (s1.sqT sq))⟩
/-- reversed(a list or a tuple) -/
def itR : D → Option (List D)
  | .tup xs => some xs.reverse
  | .lst xs => some xs.reverse
  | .scr xs => some xs.reverse
  | _ => none
theorem walk_revT {a : Addr} {xs : List V} : Walk (RT.ItvT K a xs.length) xs.length (fun H => SqT K H a xs) (fun i H x H' => H' = H ∧ xs[xs.length - 1 - i]? = some x) :=
  ⟨fun i _ hi q => ⟨hi, xs, xs[xs.length - 1 - i]'(by omega), q, by simp [show xs.length - 1 - i < xs.length by omega]⟩, fun _ _ => Nat.le_refl _, fun _ _ _ _ _ q y => ⟨y.1, y.2 xs q⟩⟩
theorem wk_rev {G0 : Hp} {J : It} {Gd : Hp → Prop} {vs : List V} {xs : List D} (w : Walk J vs.length Gd (fun i H x H' => H' = H ∧ vs[vs.length - 1 - i]? = some x)) (rp : Reps K G0 vs xs) (hg : ∀ G H, Sub G0 G → Sub G H → Gd H) : Wk K G0 J xs.reverse := by
  intro G H s1 s2
  have g := hg G H s1 s2
  have hl := rp.length
  refine ⟨fun i hi => w.goes i H (by rw [List.length_reverse] at hi; omega) g, by rw [List.length_reverse, ← hl]; exact w.stops H g, fun i x hx v H' y => ?_⟩
  have hi : i < xs.reverse.length := (List.getElem?_eq_some_iff.mp hx).1
  rw [List.length_reverse] at hi
  obtain ⟨e1, e2⟩ := w.yields i H v H' (by omega) g y
  obtain ⟨z, h1, h2⟩ := rp.getV e2
  rw [List.getElem?_reverse (by omega), ← hl, h1] at hx
  cases hx
  exact .inl ⟨e1, h2.mono s1⟩
theorem di_rev {tg e : Expr} {m : ME} {p pos : Pos} (hm : X.mg "reversed" = none) (h : DE X W np e m) (hg : Gl X "reversed" := by rfl) (hs : starEach [e] X.env = (false, eval e X.env) :: starEach [] X.env := by rfl) : DI X W np tg (.Call (.Name "reversed" p) [e] [] pos) (mIt itR m) := by
  obtain ⟨t, p, s⟩ := h.ex
  refine ⟨_, RT.pi_revA hg hm p hs, fun Γ σ env τ stk G H Q hp r h => s Γ σ env τ stk G H _ hp r ((mIt_q h).imp fun o e ⟨xs, e1, q⟩ v G' H' r' => ?_)⟩
  obtain ⟨G2, r2⟩ := r'.frz
  have rd := r2.topD
  cases hd : frz o with
  | tup ys =>
    rw [hd] at e1 rd
    cases e1
    obtain ⟨a, vs, rfl, sq, rp⟩ := itT_of rd rfl
    exact ⟨a, vs, rfl, .inr ⟨r2.wd.sub.sqT sq, q _ G2 H' r2.pop (wk_rev walk_revT rp fun G H s1 s2 => s2.sqT (s1.sqT sq))⟩⟩
  | lst ys =>
    rw [hd] at e1 rd
    cases e1
    obtain ⟨a, vs, rfl, sq, rp⟩ := itL_of rd rfl
    exact ⟨a, vs, rfl, .inl ⟨r2.wd.sub.sqL sq, q _ G2 H' r2.pop (wk_rev walk_rev rp fun G H s1 s2 => s2.sqL (s1.sqL sq))⟩⟩
  | scr ys =>
    rw [hd] at e1 rd
    cases e1
    obtain ⟨a, vs, rfl, sq, rp⟩ := itL_of rd rfl
    exact ⟨a, vs, rfl, .inl ⟨r2.wd.sub.sqL sq, q _ G2 H' r2.pop (wk_rev walk_rev rp fun G H s1 s2 => s2.sqL (s1.sqL sq))⟩⟩
  | _ =>
    rw [hd] at e1
    cases e1
/-- lo, lo + 1, .. -/
def rgD (lo : Int) (n : Nat) : List D := (List.range n).map fun (i : Nat) => D.int (lo + i)
theorem wk_range {G0 : Hp} {lo : Int} {n : Nat} : Wk K G0 (Itr lo n) (rgD lo n) := by
  intro G H s1 s2
  have hl : (rgD lo n).length = n := by unfold rgD; rw [List.length_map, List.length_range]
  refine ⟨fun i hi => by rw [hl] at hi; exact hi, by rw [hl]; exact Nat.le_refl _, fun i x hx v H' y => ?_⟩
  obtain ⟨e1, e2⟩ := y
  have hi : i < n := by
    have := (List.getElem?_eq_some_iff.mp hx).1
    rw [hl] at this
    exact this
  unfold rgD at hx
  rw [List.getElem?_map, List.getElem?_range hi] at hx
  cases hx
  subst e2
  exact .inl ⟨e1, .int _⟩
def rgOk (i : Int) : Bool := decide (-(2 ^ 62) ≤ i ∧ i < 2 ^ 62)
/-- range(n), range(a, b): from the operands -/
def mRg (ks : List AK) : Env → Rs (List D) := fun env => match evalA ks env with
  | .ok cs e => match resA ks cs e with
    | some [a] => match asI a with
      | some n => if rgOk n then .ok (rgD 0 n.toNat) e else .fail
      | none => .fail
    | some [a, b] => match asI a, asI b with
      | some i, some j => if rgOk i && rgOk j then .ok (rgD i (j - i).toNat) e else .fail
      | _, _ => .fail
    | _ => .fail
  | .exc x e => .exc x e
  | .fail => .fail
theorem di_range1 {tg a : Expr} {k : AK} {p pos : Pos} (hm : X.mg "range" = none) (h : DA X W np [a] [k]) (hg : Gl X "range" := by rfl) (hs : starEach [a] X.env = [(false, eval a X.env)] := by rfl) : DI X W np tg (.Call (.Name "range" p) [a] [] pos) (mRg [k]) := by
  obtain ⟨t, p, s⟩ := h.ex
  refine ⟨_, pi_range1 hg hm p hs, fun Γ σ env τ stk G H Q hp r h => s Γ σ env τ stk G H _ hp r ?_⟩
  unfold mRg at h
  cases e1 : evalA [k] env with
  | ok cs e =>
    simp only [e1] at h
    intro vs G1 H1 hl r1 n1
    split at h
    · rename_i a e2
      have ha := oall_of (pre := []) (pres := []) rfl r1 hl n1 e2
      match ha with
      | @OAll.cons _ _ _ v _ _ _ h1 .nil =>
        cases e3 : asI a with
        | none => simp only [e3] at h; exact False.elim h
        | some n =>
          simp only [e3] at h
          split at h
          · rename_i hc
            obtain rfl := orep_int h1 e3
            obtain ⟨c1, c2⟩ := of_decide_eq_true (p := -(2 ^ 62) ≤ n ∧ n < 2 ^ 62) hc
            exact ⟨n, rfl, c1, c2, h _ G1 H1 (R.popN (by simp [hl]) r1) wk_range⟩
          · exact False.elim h
    · rename_i a b e2
      have ha := oall_of (pre := []) (pres := []) rfl r1 hl n1 e2
      have := areNm_len n1
      match ha, this with
      | .cons _ (.cons _ .nil), h => cases h
    · exact False.elim h
  | exc x e =>
    simp only [e1] at h
    exact h
  | fail =>
    simp only [e1] at h
    exact h
theorem di_range2 {tg a b : Expr} {k k' : AK} {p pos : Pos} (hm : X.mg "range" = none) (h : DA X W np [a, b] [k, k']) (hg : Gl X "range" := by rfl) (hs : starEach [a, b] X.env = [(false, eval a X.env), (false, eval b X.env)] := by rfl) (hs2 : starEach [b] X.env = [(false, eval b X.env)] := by rfl) : DI X W np tg (.Call (.Name "range" p) [a, b] [] pos) (mRg [k, k']) := by
  obtain ⟨t, p, s⟩ := h.ex
  refine ⟨_, pi_range2 hg hm p hs hs2, fun Γ σ env τ stk G H Q hp r h => s Γ σ env τ stk G H _ hp r ?_⟩
  unfold mRg at h
  cases e1 : evalA [k, k'] env with
  | ok cs e =>
    simp only [e1] at h
    intro vs G1 H1 hl r1 n1
    split at h
    · rename_i a e2
      have ha := oall_of (pre := []) (pres := []) rfl r1 hl n1 e2
      have := areNm_len n1
      match ha, this with
      | .cons _ .nil, h => cases h
    · rename_i a b e2
      have ha := oall_of (pre := []) (pres := []) rfl r1 hl n1 e2
      match ha with
      | @OAll.cons _ _ _ v _ _ _ h1 (@OAll.cons _ _ _ w _ _ _ h2 .nil) =>
        cases e3 : asI a with
        | none => simp only [e3] at h; exact False.elim h
        | some i =>
          cases e4 : asI b with
          | none => simp only [e3, e4] at h; exact False.elim h
          | some j =>
            simp only [e3, e4] at h
            split at h
            · rename_i hc
              obtain rfl := orep_int h1 e3
              obtain rfl := orep_int h2 e4
              obtain ⟨b1, b2⟩ := Bool.and_eq_true_iff.mp hc
              obtain ⟨c1, c2⟩ := of_decide_eq_true (p := -(2 ^ 62) ≤ i ∧ i < 2 ^ 62) b1
              obtain ⟨c3, c4⟩ := of_decide_eq_true (p := -(2 ^ 62) ≤ j ∧ j < 2 ^ 62) b2
              exact ⟨i, j, rfl, ⟨c1, c2, c3, c4⟩, h _ G1 H1 (R.popN (by simp [hl]) r1) wk_range⟩
            · exact False.elim h
    · exact False.elim h
  | exc x e =>
    simp only [e1] at h
    exact h
  | fail =>
    simp only [e1] at h
    exact h
/-- the pairs of places and items -/
def numD : Nat → List D → List D
  | _, [] => []
  | n, x :: xs => .tup [.int n, x] :: numD (n + 1) xs
theorem numD_get : ∀ (xs : List D) (n i : Nat), (numD n xs)[i]? = xs[i]?.map fun x => .tup [.int ((n + i : Nat) : Int), x]
  | [], n, i => by simp [numD]
  | x :: xs, n, 0 => by simp [numD]
  | x :: xs, n, i + 1 => by
    have := numD_get xs (n + 1) i
    simp only [numD, List.getElem?_cons_succ, this]
    rw [show n + 1 + i = n + (i + 1) by omega]
theorem numD_len : ∀ (xs : List D) (n : Nat), (numD n xs).length = xs.length
  | [], n => rfl
  | x :: xs, n => congrArg (· + 1) (numD_len xs (n + 1))
theorem wk_num {G0 : Hp} {J : It} {Gd : Hp → Prop} {vs : List V} {xs : List D} (w : Walk J vs.length Gd (YPair (fun i => some (.int (i : Nat))) (fun i => vs[i]?))) (rp : Reps K G0 vs xs) (hg : ∀ G H, Sub G0 G → Sub G H → Gd H) : Wk K G0 J (numD 0 xs) := by
  intro G H s1 s2
  have g := hg G H s1 s2
  have hl := rp.length
  refine ⟨fun i hi => w.goes i H (by rw [numD_len] at hi; omega) g, by rw [numD_len, ← hl]; exact w.stops H g, fun i x hx v H' y => ?_⟩
  have hi : i < (numD 0 xs).length := (List.getElem?_eq_some_iff.mp hx).1
  rw [numD_len] at hi
  obtain ⟨T, x1, y1, e1, e2, e3, e4, e5⟩ := w.yields i H v H' (by omega) g y
  obtain ⟨z, h1, h2⟩ := rp.getV e5
  rw [numD_get, h1] at hx
  cases hx
  cases e4
  refine .inr ⟨T, _, _, e1, e2, e3, rfl, .cons ?_ (.cons (h2.mono s1) .nil)⟩
  rw [Nat.zero_add]
  exact .int _
def itE : D → Option (List D)
  | .lst xs => some (numD 0 xs)
  | .scr xs => some (numD 0 xs)
  | _ => none
theorem di_enumL {e : Expr} {es : List Expr} {kk : Nat} {m : ME} {p pos tpos : Pos} (hm : X.mg "enumerate" = none) (h : DE X W np e m) (hg : Gl X "enumerate" := by rfl) (hs : starEach [e] X.env = [(false, eval e X.env)] := by rfl) (hs' : starEach [e] X.env = (false, eval e X.env) :: starEach [] X.env := by rfl) : DI X W np (.Tuple es kk tpos) (.Call (.Name "enumerate" p) [e] [] pos) (mIt itE m) := by
  obtain ⟨t, p, s⟩ := h.ex
  refine ⟨_, pi_enum hg hm (pa_cons p pa_nil hs') hs, fun Γ σ env τ stk G H Q hp r h => s Γ σ env τ stk G H _ hp r ((mIt_q h).imp fun o e ⟨xs, e1, q⟩ v G' H' r' => ?_)⟩
  obtain ⟨G2, r2⟩ := r'.frz
  have rd := r2.topD
  cases hd : frz o with
  | lst ys =>
    rw [hd] at e1 rd
    cases e1
    obtain ⟨a, vs, rfl, sq, rp⟩ := itL_of rd rfl
    exact ⟨a, vs, rfl, r2.wd.sub.sqL sq, q _ G2 H' r2.pop (wk_num walk_enum rp fun G H s1 s2 => s2.sqL (s1.sqL sq))⟩
  | scr ys =>
    rw [hd] at e1 rd
    cases e1
    obtain ⟨a, vs, rfl, sq, rp⟩ := itL_of rd rfl
    exact ⟨a, vs, rfl, r2.wd.sub.sqL sq, q _ G2 H' r2.pop (wk_num walk_enum rp fun G H s1 s2 => s2.sqL (s1.sqL sq))⟩
  | _ =>
    rw [hd] at e1
    cases e1
/-! ### for -/
/-- an item comes -/
theorem wk_item {Γ : Ctx} {σ : St} {e e1 : Env} {τ : List (Option V)} {stk : Env} {G G0 H : Hp} {J : It} {xs : List D} {g : MG} {t : TG} {i : Nat} {x : D} {v : V} {H' : Hp} {Q : St → Hp → Prop} (hp : PinOk Γ np) (hg : GSnd K np t g) (w : Wk K G0 J xs) (s0 : Sub G0 G) (r : R K Γ σ e τ stk G H) (hx : xs[i]? = some x) (y : J.yld i H v H') (he : g e x = some e1)
    (k : ∀ σ' G', Sub G G' → R K Γ σ' e1 τ stk G' H' → Q σ' H') : t v σ H' Q := by
  obtain ⟨_, _, h⟩ := w G H s0 r.wd.sub
  rcases h i x hx v H' y with ⟨e2, rp⟩ | ⟨T, vs, ys, e2, hT, e3, e4, rp⟩
  · subst e2
    exact hg Γ σ e e1 τ stk G H' v x Q hp r rp he fun σ' r' => k σ' G (Sub.refl G) r'
  · subst e2 e3 e4
    obtain ⟨r1, sg⟩ := r.newG (o := .tup vs) hT
    exact hg Γ σ e e1 τ stk _ _ _ _ Q hp r1 (.tup (.inl (.inl upd_same)) (rp.mono sg)) he fun σ' r' => k σ' _ sg r'
theorem drop_get {α : Type} {xs r : List α} {i : Nat} {x : α} (h : xs.drop i = x :: r) : xs[i]? = some x ∧ xs.drop (i + 1) = r := by
  have h1 : (xs.drop i)[0]? = some x := by rw [h]; rfl
  rw [List.getElem?_drop] at h1
  refine ⟨h1, ?_⟩
  have h2 : (xs.drop i).tail = r := by rw [h]; rfl
  rw [List.tail_drop] at h2
  exact h2
/-- the state is looked at from here on -/
theorem R.rebase {Γ : Ctx} {σ : St} {e : Env} {τ : List (Option V)} {stk : Env} {G H : Hp} (r : R K Γ σ e τ stk G H) : ∃ P : List Addr, R K ⟨H, G, P, Γ.pin⟩ σ e τ stk G H ∧ ∀ σ' e' τ' stk' G' H', R K ⟨H, G, P, Γ.pin⟩ σ' e' τ' stk' G' H' → R K Γ σ' e' τ' stk' G' H' := by
  obtain ⟨f1, f2, c, s, n, m⟩ := r.ex
  refine ⟨f1 ++ f2, ⟨⟨r.wd.sub, Sub.refl G, fun a _ _ => ⟨rfl, rfl⟩⟩, r.pin, f1, f2, c, s, n, fun a h => .inl h⟩, fun σ' e' τ' stk' G' H' r' => ?_⟩
  obtain ⟨g1, g2, c', s', n', m'⟩ := r'.ex
  refine ⟨⟨r'.wd.sub, r.wd.ext.trans r'.wd.ext, fun a h nm => ?_⟩, r'.pin, g1, g2, c', s', n', fun a h => ?_⟩
  · have q := r.wd.fr a h nm
    have na : a ∉ f1 ++ f2 := fun z => by
      rcases m a z with y | y
      · exact nm y
      · exact h y
    have q' := r'.wd.fr a (by show H a ≠ none; rw [q.1]; exact h) na
    exact ⟨q'.1.trans q.1, q'.2.trans q.2⟩
  · rcases m' a h with y | y
    · exact m a y
    · exact Mine.of_fresh r.wd y
theorem SRQ.base {Γ Γ1 : Ctx} {D : Ends} {s : SR} (k : ∀ σ' e' τ' stk' G' H', R K Γ1 σ' e' τ' stk' G' H' → R K Γ σ' e' τ' stk' G' H') (h : SRQ K mg W Γ D s) : SRQ K mg W Γ1 D s := by
  cases s with
  | nx e => exact fun σ' G' H' r => h σ' G' H' (k _ _ _ _ _ _ r)
  | rt o e => exact fun σ' v G' H' r => h σ' v G' H' (k _ _ _ _ _ _ r)
  | bk e => exact fun σ' G' H' r => h σ' G' H' (k _ _ _ _ _ _ r)
  | ct e => exact fun σ' G' H' r => h σ' G' H' (k _ _ _ _ _ _ r)
  | exc x e => exact fun σ' c d G' H' r => h σ' c d G' H' (k _ _ _ _ _ _ r)
  | fail => exact h
theorem ssnd_for {wi : TI} {t : TG} {tb : TS} {mi : Env → Rs (List D)} {g : MG} {mb : MS} (h1 : ISnd K mg W np wi mi) (h2 : GSnd K np t g) (h3 : SSnd K mg W np tb mb) : SSnd K mg W np (tFor wi t tb) (mFor mi g mb) := by
  intro Γ σ env G H D hp r h
  refine h1 Γ σ env [] [] G H _ hp r ?_
  unfold mFor at h
  cases e1 : mi env with
  | ok xs e =>
    simp only [e1] at h
    intro J G1 H1 r1' w
    obtain ⟨P, r1, kb⟩ := r1'.rebase
    replace h : SRQ K mg W ⟨H1, G1, P, Γ.pin⟩ D (forL g mb xs e) := h.base kb
    replace hp : PinOk ⟨H1, G1, P, Γ.pin⟩ np := hp.base r1'.wd.ext
    generalize eΓ : (⟨H1, G1, P, Γ.pin⟩ : Ctx) = Γ1 at r1 h hp
    have eG : Γ1.G0 = G1 := by rw [← eΓ]
    refine ⟨fun i m σ H => m = xs.length - i ∧ i ≤ xs.length ∧ ∃ G e, R K Γ1 σ e [] [] G H ∧ SRQ K mg W Γ1 D (forL g mb (xs.drop i) e), ⟨xs.length, by simp, Nat.zero_le _, G1, e, r1, h⟩, ?_⟩
    rintro i m σ H ⟨rfl, hi, G2, e2, r2, q⟩
    have s2 : Sub G1 G2 := by
      have := r2.wd.ext
      rw [eG] at this
      exact this
    obtain ⟨go, stop, _⟩ := w G2 H s2 r2.wd.sub
    cases hd : xs.drop i with
    | nil =>
      have hl : xs.length ≤ i := by
        have := congrArg List.length hd
        simp at this
        omega
      have ei : i = xs.length := by omega
      subst ei
      rw [hd] at q
      exact .inl ⟨stop, q σ G2 H r2⟩
    | cons x rest =>
      obtain ⟨hx, hr⟩ := drop_get hd
      have hlt : i < xs.length := (List.getElem?_eq_some_iff.mp hx).1
      rw [hd] at q
      unfold forL at q
      cases eg : g e2 x with
      | none => simp only [eg] at q; exact False.elim q
      | some e3 =>
        simp only [eg] at q
        refine .inr ⟨go i hlt, fun σ' H' => ∃ G e, R K Γ1 σ' e [] [] G H' ∧ SRQ K mg W Γ1 D (forL g mb rest e), fun σ' H' ⟨G', e', r', q'⟩ => ⟨xs.length - (i + 1), by omega, rfl, hlt, G', e', r', by rw [hr]; exact q'⟩, fun v H' y => ?_⟩
        refine wk_item hp h2 w s2 r2 hx y eg fun σ' G' sg r' => ?_
        refine h3 Γ1 σ' e3 G' H' _ hp r' ?_
        cases eb : mb e3 with
        | nx e4 =>
          simp only [eb] at q
          exact fun σ' G' H' r => ⟨G', e4, r, q⟩
        | ct e4 =>
          simp only [eb] at q
          exact fun σ' G' H' r => ⟨G', e4, r, q⟩
        | bk e4 =>
          simp only [eb] at q
          exact fun σ' G' H' r => q σ' G' H' r
        | rt o e4 =>
          simp only [eb] at q
          exact q
        | exc x e4 =>
          simp only [eb] at q
          exact q
        | fail =>
          simp only [eb] at q
          exact q
  | exc x e =>
    simp only [e1] at h
    exact fun c d G' H' r q => h σ c d G' H' r q
  | fail =>
    simp only [e1] at h
    exact h
theorem ds_for {tg it : Expr} {body : List Stmt} {mi : Env → Rs (List D)} {g : MG} {mb : MS} {pos : Pos} (po : PassesOwn (model X.prog X.w) X.A X.env X.xe) (hc : X.calm = true) (hi : DI X W np tg it mi) (hg : DG X np tg g) (hb : DSs X W np body mb) (hs : ∀ x, foldedSetIterable it X.env x = pure x := by intro _; rfl) : DS X W np (.For tg it body [] pos) (mFor mi g mb) := by
  obtain ⟨t, p, s⟩ := hi.ex
  obtain ⟨u, q, z⟩ := hg.ex
  obtain ⟨v, p', s'⟩ := hb.ex
  exact ⟨_, ps_for po hc p q p' hs, ssnd_for s z s'⟩
end
end Dn
end
section
set_option Elab.async false
set_option linter.all false
set_option maxRecDepth 100000
set_option maxHeartbeats 4000000
/-! Dn8: comprehensions, slices, zip. -/
namespace Dn
open PySem PySem.Spec L2
open PyProof.Rows hiding St
def clr (e : Env) : List Nat → Env
  | [] => e
  | v :: vs => (clr e vs).set v none
def compL (vs : List Nat) (g : MG) (c : Env → Rs Bool) (m : ME) : List D → Env → List O → Rs (List O)
  | [], e, acc => .ok acc e
  | x :: xs, e, acc => match g e x with
    | none => .fail
    | some e1 => match c e1 with
      | .ok true e2 => match m e2 with
        | .ok o e3 => if acc.length < 16000000 then compL vs g c m xs (clr e3 vs) (acc ++ [o]) else .fail
        | _ => .fail
      | .ok false e2 => compL vs g c m xs (clr e2 vs) acc
      | _ => .fail
def mComp (it : Env → Rs (List D)) (vs : List Nat) (g : MG) (c : Env → Rs Bool) (m : ME) : ME := fun env => match it env with
  | .ok xs e => match compL vs g c m xs (clr e vs) [] with
    | .ok acc e2 => .ok (.l acc) e2
    | _ => .fail
  | .exc x e => .exc x e
  | .fail => .fail
def mYes : Env → Rs Bool := fun e => .ok true e
def W0 : WX := fun _ _ _ _ => False
section
variable {X : Cx} {W : WX} {np : Asm} {K : PySem.W.Frag} {mg : Str → Option Value}
structure DTs (X : Cx) (W : WX) (np : Asm) (ifs : List Expr) (m : Env → Rs Bool) : Prop where
  ex : ∃ t, PTs X ifs t ∧ TSnd X.K X.mg W np t m
theorem dts_nil : DTs X W np [] mYes := ⟨_, pts_nil, fun Γ σ env τ stk G H Q hp r h => h G H r⟩
theorem dts_one {c : Expr} {m : Env → Rs Bool} (h : DT X W np c m) : DTs X W np [c] m := by
  obtain ⟨t, p, s⟩ := h.ex
  exact ⟨_, pts_one p, s⟩
/-! one reading for all contexts -/
abbrev BlkIx := Shared × Hp × Addr × List (Str × Addr) × List Addr
abbrev blkAt (X : Cx) (scope : Scope) (i : BlkIx) : Cx := X.blk i.1 i.2.1 scope (compEnvC scope i.2.2.2.1 i.2.2.1 X.env) i.2.2.2.2
theorem uni_e {scope : Scope} {e : Expr} {m : ME} (h : ∀ i : BlkIx, DE (blkAt X scope i) W np e m) : ∃ t, (∀ i : BlkIx, PE (blkAt X scope i) e t) ∧ ESnd X.K X.mg W np t m := by
  refine ⟨fun σ H Q => ∀ i : BlkIx, ∃ t, PE (blkAt X scope i) e t ∧ t σ H Q, fun i => ⟨fun pins s σ H Q I hq => ?_⟩, fun Γ σ env τ stk G H Q hp r q i => ?_⟩
  · obtain ⟨t, p, hq⟩ := hq i
    exact p.run pins s σ H Q I hq
  · obtain ⟨t, p, s⟩ := (h i).ex
    exact ⟨t, p, s Γ σ env τ stk G H Q hp r q⟩
theorem uni_ts {scope : Scope} {e : List Expr} {m : Env → Rs Bool} (h : ∀ i : BlkIx, DTs (blkAt X scope i) W np e m) : ∃ t, (∀ i : BlkIx, PTs (blkAt X scope i) e t) ∧ TSnd X.K X.mg W np t m := by
  refine ⟨fun σ H Q => ∀ i : BlkIx, ∃ t, PTs (blkAt X scope i) e t ∧ t σ H Q, fun i => ⟨fun pins s σ H Q I hq => ?_⟩, fun Γ σ env τ stk G H Q hp r q i => ?_⟩
  · obtain ⟨t, p, hq⟩ := hq i
    exact p.run pins s σ H Q I hq
  · obtain ⟨t, p, s⟩ := (h i).ex
    exact ⟨t, p, s Γ σ env τ stk G H Q hp r q⟩
/-- a target that stores in vs alone -/
def GW (t : TG) (vs : List Nat) : Prop := ∀ (v : V) (σ : St) (H : Hp) (Q : St → Hp → Prop), t v σ H (fun σ2 H2 => wipe σ2 vs = wipe σ vs → Q σ2 H2) → t v σ H Q
def GsW (t : TGs) (vs : List Nat) : Prop := ∀ (v : List V) (σ : St) (H : Hp) (Q : St → Hp → Prop), t v σ H (fun σ2 H2 => wipe σ2 vs = wipe σ vs → Q σ2 H2) → t v σ H Q
theorem wipe_get {σ : St} {j : Nat} : ∀ {vs : List Nat}, j ∈ vs → (wipe σ vs)[j]? = if j < σ.length then some none else none
  | [], h => by cases h
  | v :: vs, h => by
    unfold wipe
    rw [List.getElem?_set, wipe_length]
    by_cases e : v = j
    · subst e
      rw [if_pos rfl]
    · rw [if_neg e]
      rcases List.mem_cons.mp h with z | z
      · exact absurd z.symm e
      · exact wipe_get z
theorem wipe_wipe {σ : St} {vs : List Nat} : wipe (wipe σ vs) vs = wipe σ vs := by
  apply List.ext_getElem?
  intro j
  by_cases h : j ∈ vs
  · rw [wipe_get h, wipe_get h, wipe_length]
  · rw [wipe_out h]
theorem wipe_set {σ : St} {i : Nat} {x : Option V} : ∀ {vs : List Nat}, i ∈ vs → wipe (σ.set i x) vs = wipe σ vs
  | [], h => by cases h
  | v :: vs, h => by
    unfold wipe
    by_cases e : i ∈ vs
    · rw [wipe_set e]
    · have ev : i = v := by
        rcases List.mem_cons.mp h with z | z
        · exact z
        · exact absurd z e
      subst ev
      have aux : ∀ {ws : List Nat}, i ∉ ws → wipe (σ.set i x) ws = (wipe σ ws).set i x := by
        intro ws
        induction ws with
        | nil => intro _; rfl
        | cons w ws ih =>
          intro hw
          unfold wipe
          rw [ih (fun z => hw (List.mem_cons_of_mem _ z)), List.set_comm _ _ (fun z => hw (by rw [z]; exact List.mem_cons_self))]
      rw [aux e, List.set_set]
theorem gw_n {i : Nat} {vs : List Nat} (h : i ∈ vs) : GW (gName i) vs := fun v σ H Q q => q (wipe_set h)
theorem gsw_nil {vs : List Nat} : GsW gNil vs := fun v σ H Q q => ⟨q.1, q.2 rfl⟩
theorem gsw_cons {t : TG} {u : TGs} {vs : List Nat} (hm : ∀ v σ H (Q Q' : St → Hp → Prop), (∀ s h, Q s h → Q' s h) → t v σ H Q → t v σ H Q') (h1 : GW t vs) (h2 : GsW u vs) : GsW (gCons t u) vs := fun v σ H Q ⟨x, r, e, q⟩ => ⟨x, r, e, h1 _ _ _ _ (hm _ _ _ _ _ (fun s h a w => h2 r s h Q (by rw [w]; exact a)) q)⟩
theorem gw_t {t : TGs} {n : Nat} {vs : List Nat} (h : GsW t vs) : GW (gTup K n t) vs := fun v σ H Q ⟨a, xs, e, sq, hl, q⟩ => ⟨a, xs, e, sq, hl, h xs σ H Q q⟩
theorem gm_n {i : Nat} : ∀ v σ H (Q Q' : St → Hp → Prop), (∀ s h, Q s h → Q' s h) → gName i v σ H Q → gName i v σ H Q' := fun v σ H Q Q' h q => h _ _ q
theorem Cells.clr {G H : Hp} : ∀ {vs : List Nat} {σ : St} {e : Env} {f : List Addr}, Cells K G H σ e f → ∃ g, Cells K G H (wipe σ vs) (clr e vs) g ∧ g.Sublist f
  | [], _, _, f, c => ⟨f, c, .refl _⟩
  | v :: vs, _, _, f, c => by
    obtain ⟨g, c1, s1⟩ := c.clr (vs := vs)
    obtain ⟨g', c2, s2⟩ := c1.clear (i := v) none
    exact ⟨g', c2, s2.trans s1⟩
theorem R.clr {Γ : Ctx} {σ : St} {e : Env} {τ : List (Option V)} {stk : Env} {G H : Hp} {vs : List Nat} (r : R K Γ σ e τ stk G H) (hv : ∀ i ∈ vs, Γ.pin i = none) : R K Γ (wipe σ vs) (Dn.clr e vs) τ stk G H := by
  obtain ⟨f1, f2, c, s, n, m⟩ := r.ex
  obtain ⟨g, c1, s1⟩ := c.clr (vs := vs)
  have sl : (g ++ f2).Sublist (f1 ++ f2) := List.Sublist.append s1 (List.Sublist.refl _)
  refine ⟨r.wd, fun i v h => ?_, g, f2, c1, s, n.sublist sl, fun a h => m a (sl.subset h)⟩
  have : i ∉ vs := fun z => by
    rw [hv i z] at h
    cases h
  rw [wipe_out this]
  exact r.pin i v h
theorem Cells.anyV {G H : Hp} : ∀ {σ σ' : St} {e : Env} {f : List Addr}, Cells K G H σ e f → σ'.length = σ.length → (∀ (i : Nat) (o : O), e[i]? = some (some o) → σ'[i]? = σ[i]?) → Cells K G H σ' e f
  | _, [], _, _, .nil, _, _ => .nil
  | _, _ :: _, _, _, .nil, h, _ => by cases h
  | _, [], _, _, .skip _, h, _ => by cases h
  | _, [], _, _, .cons _ _, h, _ => by cases h
  | _, v' :: vs', _, _, .skip r, h, k => .skip (r.anyV (Nat.succ.inj h) fun i o q => k (i + 1) o q)
  | _, v' :: vs', _, _, .cons (o := o) q r, h, k => by
    have e0 := k 0 o rfl
    cases e0
    exact .cons q (r.anyV (Nat.succ.inj h) fun i o q => k (i + 1) o q)
theorem clr_in {i : Nat} {o : O} : ∀ {vs : List Nat} {e : Env}, (Dn.clr e vs)[i]? = some (some o) → i ∉ vs
  | [], _, _ => by simp
  | v :: vs, e, h => by
    unfold Dn.clr at h
    by_cases ev : v = i
    · subst ev
      rw [List.getElem?_set] at h
      simp at h
    · rw [List.getElem?_set_ne ev] at h
      have := clr_in h
      intro z
      rcases List.mem_cons.mp z with z | z
      · exact ev z.symm
      · exact this z
/-- from the wiped slots back -/
theorem R.unclr {Γ : Ctx} {σ : St} {e : Env} {τ : List (Option V)} {stk : Env} {G H : Hp} {vs : List Nat} (r : R K Γ (wipe σ vs) (Dn.clr e vs) τ stk G H) : R K Γ σ (Dn.clr e vs) τ stk G H := by
  obtain ⟨f1, f2, c, s, n, m⟩ := r.ex
  refine ⟨r.wd, fun i v h => ?_, f1, f2, c.anyV (wipe_length σ vs).symm fun i o h => (wipe_out (clr_in h)).symm, s, n, m⟩
  exact (wipe_some (r.pin i v h)).1
theorem RsQ.base {α : Type} {Γ Γ1 : Ctx} {σ : St} {τ : List (Option V)} {stk : Env} {P P' : α → Env → Prop} {r : Rs α} (k : ∀ σ' e' τ' stk' G' H', R K Γ1 σ' e' τ' stk' G' H' → R K Γ σ' e' τ' stk' G' H') (h : RsQ K mg Γ W σ τ stk P r) (i : ∀ a e, P a e → P' a e) : RsQ K mg Γ1 W σ τ stk P' r := by
  cases r with
  | ok o e => exact i o e h
  | exc x e => exact fun c d G' H' r q => h c d G' H' (k _ _ _ _ _ _ r) q
  | fail => exact h
/-- one more item lies on top of the new list -/
theorem R.push {Γ : Ctx} {σ : St} {e : Env} {τ : List (Option V)} {stk : Env} {G H : Hp} {y : V} {o : O} {p : Addr} {acc : List O} (r : R K Γ σ e (some y :: some (.ref p) :: τ) (some o :: some (.l acc) :: stk) G H) : ∃ vs, H p = some (.lst vs) ∧ vs.length = acc.length ∧ R K Γ σ e (some (.ref p) :: τ) (some (.l (acc ++ [o])) :: stk) G (upd H p (.lst (vs ++ [y]))) := by
  obtain ⟨f1, f2, c, s, n, m⟩ := r.ex
  cases s with
  | @cons _ _ fy _ _ fr hy s =>
    cases s with
    | @cons _ _ fl _ _ fb hl s =>
      cases hl with
      | @l _ vs _ fa hp hg hl =>
        have keep : ∀ {v : List V} {os : List O} {f : List Addr}, OReps K G H v os f → ORep K G H y o fy → OReps K G H (v ++ [y]) (os ++ [o]) (f ++ fy) := by
          intro v os f h
          induction v generalizing os f with
          | nil =>
            intro hy
            cases h
            have := OReps.cons hy OReps.nil
            rw [List.append_nil] at this
            exact this
          | cons v r ih =>
            intro hy
            cases h with
            | cons h1 h2 =>
              rw [List.append_assoc]
              exact .cons h1 (ih h2 hy)
        have nd := List.nodup_append.mp n
        have nd2 := List.nodup_append.mp nd.2.1
        have nd3 := List.nodup_append.mp nd2.2.1
        have pm : (f1 ++ (fy ++ ((p :: fa) ++ fb))).Perm (f1 ++ ((p :: (fa ++ fy)) ++ fb)) := by
          refine List.Perm.append_left f1 ?_
          rw [← List.append_assoc]
          refine List.Perm.append_right fb ?_
          exact List.perm_append_comm (l₁ := fy) (l₂ := p :: fa)
        have np' := pm.nodup_iff.mp n
        have kp : ∀ f : List Addr, p ∉ f → Keep G H G (upd H p (.lst (vs ++ [y]))) f := fun f hf => ⟨Sub.refl G, fun a h => ⟨upd_ne (fun z => hf (by rw [← z]; exact h)), fun z => z⟩⟩
        have n1 := List.nodup_append.mp np'
        have n2 := List.nodup_append.mp n1.2.1
        have n3 := List.nodup_cons.mp n2.1
        have p1 : p ∉ f1 := fun z => n1.2.2 p z p (List.mem_append_left _ List.mem_cons_self) rfl
        have p2 : p ∉ fb := fun z => n2.2.2 p List.mem_cons_self p z rfl
        have hpw : Γ.H0 p ≠ none → p ∈ Γ.P := fun z => by
          have hm : p ∈ f1 ++ (fy ++ ((p :: fa) ++ fb)) := List.mem_append_right _ (List.mem_append_right _ (List.mem_append_left _ List.mem_cons_self))
          rcases m p hm with y | y
          · exact y
          · exact absurd y z
        have w : Wd Γ G (upd H p (.lst (vs ++ [y]))) := {
          sub := fun a x e => by
            rw [upd_ne (fun z => by rw [z, hg] at e; cases e)]
            exact r.wd.sub a x e
          ext := r.wd.ext
          fr := fun a h nm => by
            have ne : a ≠ p := fun z => by
              rw [z] at h nm
              exact nm (hpw h)
            rw [upd_ne ne]
            exact r.wd.fr a h nm }
        exact ⟨vs, hp, hl.length, w, r.pin, f1, (p :: (fa ++ fy)) ++ fb, c.keep (kp _ p1), .cons (.l upd_same hg ((keep hl hy).keep (kp _ n3.1))) (s.keep (kp _ p2)), np', fun a h => m a (pm.mem_iff.mpr h)⟩
theorem esnd_comp {wi : TI} {t : TG} {tt : TT} {te : TE} {vs : List Nat} {mi : Env → Rs (List D)} {g : MG} {c : Env → Rs Bool} {m : ME} (hv : ∀ i ∈ vs, i ∉ np.np) (h1 : ISnd K mg W np wi mi) (h2 : GSnd K np t g) (hw : GW t vs) (h3 : TSnd K mg W0 np tt c) (h4 : ESnd K mg W0 np te m) : ESnd K mg W np (tLc wi t tt te vs) (mComp mi vs g c m) := by
  intro Γ σ env τ stk G H Q hp r h
  refine h1 Γ σ env τ stk G H _ hp r ?_
  unfold mComp at h
  cases e1 : mi env with
  | ok xs e =>
    simp only [e1] at h
    intro J G1 H1 r1' w
    cases e2 : compL vs g c m xs (clr e vs) [] with
    | exc x e3 => simp only [e2] at h; exact False.elim h
    | fail => simp only [e2] at h; exact False.elim h
    | ok acc e3 =>
      simp only [e2] at h
      obtain ⟨P, r1, kb⟩ := r1'.rebase
      replace h : ∀ v G' H', R K ⟨H1, G1, P, Γ.pin⟩ σ e3 (some v :: τ) (some (.l acc) :: stk) G' H' → Q v H' := fun v G' H' r => h v G' H' (kb _ _ _ _ _ _ r)
      replace hp : PinOk ⟨H1, G1, P, Γ.pin⟩ np := hp.base r1'.wd.ext
      generalize eΓ : (⟨H1, G1, P, Γ.pin⟩ : Ctx) = Γ1 at r1 h hp
      have eG : Γ1.G0 = G1 := by rw [← eΓ]
      have pv : ∀ i ∈ vs, Γ1.pin i = none := fun i hi => by
        cases q : Γ1.pin i with
        | none => rfl
        | some v => exact absurd (hp.1 i v q) (hv i hi)
      intro p hpn
      refine ⟨fun i n H => n = xs.length - i ∧ i ≤ xs.length ∧ ∃ G e a, R K Γ1 (wipe σ vs) (clr e vs) (some (.ref p) :: τ) (some (.l a) :: stk) G H ∧ compL vs g c m (xs.drop i) (clr e vs) a = .ok acc e3, ⟨xs.length, by simp, Nat.zero_le _, G1, e, [], ?_, e2⟩, ?_⟩
      · exact R.newL (vs := []) (os := []) (r1.clr pv) rfl hpn
      · rintro i n H2 ⟨rfl, hi, G2, e4, a, r2, q⟩
        have s2 : Sub G1 G2 := by
          have := r2.wd.ext
          rw [eG] at this
          exact this
        obtain ⟨go, stop, _⟩ := w G2 H2 s2 r2.wd.sub
        cases hd : xs.drop i with
        | nil =>
          have hl : xs.length ≤ i := by
            have := congrArg List.length hd
            simp at this
            omega
          have ei : i = xs.length := by omega
          subst ei
          rw [hd] at q
          unfold compL at q
          cases q
          exact .inl ⟨stop, h _ G2 H2 r2.unclr⟩
        | cons x rest =>
          obtain ⟨hx, hr⟩ := drop_get hd
          have hlt : i < xs.length := (List.getElem?_eq_some_iff.mp hx).1
          rw [hd] at q
          unfold compL at q
          cases eg : g (clr e4 vs) x with
          | none => simp only [eg] at q; cases q
          | some e5 =>
            simp only [eg] at q
            refine .inr ⟨go i hlt, fun H' => ∃ G e a, R K Γ1 (wipe σ vs) (clr e vs) (some (.ref p) :: τ) (some (.l a) :: stk) G H' ∧ compL vs g c m rest (clr e vs) a = .ok acc e3, fun H' ⟨G', e', a', r', q'⟩ => ⟨xs.length - (i + 1), by omega, rfl, hlt, G', e', a', r', by rw [hr]; exact q'⟩, fun v H' y => ?_⟩
            refine hw v (wipe σ vs) H' _ (wk_item hp h2 w s2 r2 hx y eg fun σ' G' sg r' wq => ?_)
            rw [wipe_wipe] at wq
            refine ⟨wq, ?_⟩
            have nx : ∀ {e6 : Env} {G3 H3 : Hp} {a' : List O}, R K Γ1 σ' e6 (some (.ref p) :: τ) (some (.l a') :: stk) G3 H3 → R K Γ1 (wipe σ vs) (clr e6 vs) (some (.ref p) :: τ) (some (.l a') :: stk) G3 H3 := fun r => by
              have z := r.clr pv
              rw [wq] at z
              exact z
            refine h3 Γ1 σ' e5 _ _ G' H' _ hp r' ?_
            cases ec : c e5 with
            | ok b e6 =>
              intro G3 H3 r3
              cases b with
              | false =>
                simp only [ec] at q
                rw [if_neg Bool.false_ne_true]
                exact ⟨G3, e6, a, nx r3, q⟩
              | true =>
                simp only [ec] at q
                rw [if_pos rfl]
                refine h4 Γ1 σ' e6 _ _ G3 H3 _ hp r3 ?_
                cases em : m e6 with
                | ok o e7 =>
                  simp only [em] at q
                  split at q
                  · rename_i hlen
                    intro v4 G4 H4 r4
                    obtain ⟨us, hp4, hl4, r5⟩ := r4.push
                    refine ⟨us, hp4, ?_, G4, e7, a ++ [o], nx r5, q⟩
                    rw [sizeLine_eq]
                    omega
                  · cases q
                | exc x e7 =>
                  simp only [em] at q
                  cases q
                | fail =>
                  simp only [em] at q
                  cases q
            | exc x e6 =>
              simp only [ec] at q
              cases q
            | fail =>
              simp only [ec] at q
              cases q
  | exc x e =>
    simp only [e1] at h
    exact h
  | fail =>
    simp only [e1] at h
    exact h
end
end Dn
end
section
set_option Elab.async false
set_option linter.all false
set_option maxRecDepth 100000
set_option maxHeartbeats 4000000
/-! Dn9: a def by its body; comprehensions as expressions. -/
namespace Dn
open PySem PySem.Spec L2
open PyProof.Rows hiding St
def asOf (np : List Nat) (n : Nat) (e : Env) : Env := (List.range n).map fun i => if np.contains i then (e[i]?).join else none
/-- a def of so many names, its body worth m; np: parameters that it never stores -/
def fnD (np : List Nat) (len : Nat) (m : MS) : List O → FR := fun os => match m (os.map some ++ List.replicate (len - os.length) none) with
  | .nx e => .ok (.d .non) (asOf np os.length e)
  | .rt o e => .ok o (asOf np os.length e)
  | .exc x e => .exc x (asOf np os.length e)
  | _ => .fail
section
variable {X : Cx} {W : WX} {K : PySem.W.Frag} {mg : Str → Option Value}
theorem Cells.nones {G H : Hp} : ∀ {vs : List (Option V)} {os : Env}, vs.length = os.length → (∀ (i : Nat) (o : O), os[i]? ≠ some (some o)) → Cells K G H vs os []
  | [], [], _, _ => .nil
  | [], _ :: _, h, _ => by cases h
  | _ :: _, [], h, _ => by cases h
  | _ :: _, none :: _, h, k => .skip (Cells.nones (Nat.succ.inj h) fun i o q => k (i + 1) o q)
  | _ :: _, some o :: _, h, k => absurd rfl (k 0 o)
theorem Cells.mask {G H : Hp} : ∀ {σ : List (Option V)} {e : Env} {f : List Addr} {vs : List (Option V)} {as : Env}, Cells K G H σ e f → vs.length = as.length → (∀ (i : Nat) (o : O), as[i]? = some (some o) → e[i]? = some (some o) ∧ vs[i]? = σ[i]?) → ∃ g, Cells K G H vs as g ∧ g.Sublist f
  | _, _, _, _, _, .nil, hl, h => ⟨[], Cells.nones hl fun i o q => by
      have := (h i o q).1
      simp at this, .refl _⟩
  | _, _, _, [], [], .skip _, _, _ => ⟨[], .nil, List.nil_sublist _⟩
  | _, _, _, [], [], .cons _ _, _, _ => ⟨[], .nil, List.nil_sublist _⟩
  | _, _, _, [], _ :: _, _, h, _ => by cases h
  | _, _, _, _ :: _, [], _, h, _ => by cases h
  | _, _, _, v :: vs, a :: as, .skip r, hl, h => by
    cases a with
    | some o =>
      have := (h 0 o rfl).1
      cases this
    | none =>
      obtain ⟨g, c, s⟩ := r.mask (vs := vs) (as := as) (Nat.succ.inj hl) fun i o q => h (i + 1) o q
      exact ⟨g, .skip c, s⟩
  | _, _, _, v :: vs, a :: as, .cons (f := f) (o := o') q r, hl, h => by
    obtain ⟨g, c, s⟩ := r.mask (vs := vs) (as := as) (Nat.succ.inj hl) fun i o q => h (i + 1) o q
    cases a with
    | none => exact ⟨g, .skip c, s.trans (List.sublist_append_right _ _)⟩
    | some o =>
      have h0 := h 0 o rfl
      have e1 : o' = o := Option.some.inj (Option.some.inj h0.1)
      have e2 := Option.some.inj h0.2
      subst e1 e2
      exact ⟨f ++ g, .cons q c, List.Sublist.append (.refl _) s⟩
theorem asOf_get {np : List Nat} {n i : Nat} {o : O} {e : Env} (h : (asOf np n e)[i]? = some (some o)) : i < n ∧ i ∈ np ∧ e[i]? = some (some o) := by
  unfold asOf at h
  rw [List.getElem?_map] at h
  by_cases hi : i < n
  · rw [List.getElem?_range hi] at h
    have h' : (if np.contains i then (e[i]?).join else none) = some o := Option.some.inj h
    by_cases hc : np.contains i = true
    · rw [if_pos hc] at h'
      refine ⟨hi, by simpa using hc, ?_⟩
      cases q : e[i]? with
      | none => rw [q] at h'; cases h'
      | some z =>
        rw [q] at h'
        exact congrArg some h'
    · rw [if_neg hc] at h'
      cases h'
  · rw [List.getElem?_eq_none (by rw [List.length_range]; omega)] at h
    cases h
def pinOf (np : List Nat) (vs : List V) : Nat → Option V := fun i => if np.contains i then vs[i]? else none
theorem R.args {np : List Nat} {H0 G0 : Hp} {fp : List Addr} {vs : List V} {σ : St} {e : Env} {τ : List (Option V)} {stk : Env} {G H : Hp} (r : R K ⟨H0, G0, fp, pinOf np vs⟩ σ e τ stk G H) : R K ⟨H0, G0, fp, noPin⟩ (vs.map some) (asOf np vs.length e) τ stk G H := by
  obtain ⟨f1, f2, c, s, n, m⟩ := r.ex
  obtain ⟨g, c1, s1⟩ := c.mask (vs := vs.map some) (as := asOf np vs.length e) (by unfold asOf; simp) fun i o q => by
    obtain ⟨h1, h2, h3⟩ := asOf_get q
    refine ⟨h3, ?_⟩
    have pi : pinOf np vs i = some vs[i] := by
      unfold pinOf
      rw [if_pos (by simpa using h2)]
      simp [h1]
    rw [r.pin i _ pi, List.getElem?_map]
    simp [h1]
  have sl : (g ++ f2).Sublist (f1 ++ f2) := List.Sublist.append s1 (.refl _)
  exact ⟨⟨r.wd.sub, r.wd.ext, r.wd.fr⟩, fun i v h => (by cases h), g, f2, c1, s, n.sublist sl, fun a h => m a (sl.subset h)⟩
theorem okN {P : Program} {w : World} {base : Heap} {x qual : Str} {st : Stmt} {f : Addr} {fd : FuncData} {N ps : List Str} {k : Nat} {sp : Sp} (F : Fun K x qual st f fd) (S : FnScope N ps (defScope st)) (len : ∀ vs H Q E, sp vs H Q E → vs.length = ps.length)
    (body : ∀ (cdv : Value) (A : Around) (outer : List PySem.Env) (s : Shared) (H : Hp) (vs : List V) (Q : VK) (E : XK), Room k (A.deeper (envOfC qual (defScope st) s.heap.objs.size f cdv)) → sp vs H Q E →
      ∃ t, PSs (cxOf (L2N.CX P w) P w K mg base N qual (defScope st) f cdv A outer s H E) (defBody st) t ∧
        t { nx := fun _ H' => Q .non H', rt := Q } (L2.start N vs) H) : FnOk P w K mg base (L2N.CX P w) (k + 1) f fd ps sp := by
  obtain ⟨_, _, _, _, _, _, v7, _, _, rfl, l, c⟩ := F.ex
  exact fn_of l c S len (body v7)
/-- a body's worth is the def's worth -/
theorem def_core {X : Cx} {N : List Str} {body : List Stmt} {n : Nat} {m : MS} {np : List Nat} {E : XK} {vs : List V} {H : Hp} {Q : VK} (hb : DSs X (fun c d _ H => E c d H) (asm np) body m) (h : FP X.K X.mg n (fnD np N.length m) vs H Q E) :
    ∃ t, PSs X body t ∧ t { nx := fun _ H' => Q .non H', rt := Q } (L2.start N vs) H := by
  obtain ⟨t, p, sn⟩ := hb.ex
  obtain ⟨hn, os, fp, G, sub, c, nd, q⟩ := h
  have hl : os.length = vs.length := by
    have := c.length
    simpa using this.symm
  refine ⟨t, p, sn ⟨H, G, fp, pinOf np vs⟩ _ (os.map some ++ List.replicate (N.length - os.length) none) G H _ ⟨fun i v h => ?_, trivial⟩ ?_ ?_⟩
  · unfold pinOf at h
    by_cases hc : np.contains i = true
    · simpa using hc
    · dsimp only at h
      rw [if_neg hc] at h
      cases h
  · refine ⟨⟨sub, Sub.refl G, fun a _ _ => ⟨rfl, rfl⟩⟩, fun i v h => ?_, fp, [], ?_, .nil, by simpa using nd, fun a h => .inl (by simpa using h)⟩
    · unfold pinOf at h
      dsimp only at h
      by_cases hc : np.contains i = true
      · rw [if_pos hc] at h
        unfold L2.start
        rw [List.getElem?_append_left (by rw [List.length_map]; exact (List.getElem?_eq_some_iff.mp h).1), List.getElem?_map, h]
        rfl
      · rw [if_neg hc] at h
        cases h
    · unfold L2.start
      have nn : Cells X.K G H (List.replicate (N.length - vs.length) (none : Option V)) (List.replicate (N.length - os.length) (none : Option O)) [] := Cells.nones (by simp [hl]) fun i o q => by
        rw [List.getElem?_replicate] at q
        split at q <;> cases q
      have := c.append nn
      rw [List.append_nil] at this
      exact this
  · unfold fnD at q
    cases em : m (os.map some ++ List.replicate (N.length - os.length) none) with
    | nx e =>
      simp only [em] at q
      rw [hl] at q
      exact fun σ' G' H' r => q .non G' H' (r.args.pushD .non)
    | rt o e =>
      simp only [em] at q
      rw [hl] at q
      exact fun σ' v G' H' r => q v G' H' r.args
    | exc xx e =>
      simp only [em] at q
      rw [hl] at q
      exact fun σ' cc d G' H' r xr => q cc d G' H' r.args xr
    | bk e =>
      simp only [em] at q
    | ct e =>
      simp only [em] at q
    | fail =>
      simp only [em] at q
/-- THE RULE for a def -/
theorem ok_def {P : Program} {w : World} {base : Heap} {x qual : Str} {st : Stmt} {f : Addr} {fd : FuncData} {N ps : List Str} {k : Nat} {m : MS} (np : List Nat) (F : Fun K x qual st f fd) (S : FnScope N ps (defScope st))
    (hbody : ∀ (cdv : Value) (A : Around) (outer : List PySem.Env) (s : Shared) (H : Hp) (E : XK), Room k (A.deeper (envOfC qual (defScope st) s.heap.objs.size f cdv)) →
      DSs (cxOf (L2N.CX P w) P w K mg base N qual (defScope st) f cdv A outer s H E) (fun c d _ H => E c d H) (asm np) (defBody st) m) : FnOk P w K mg base (L2N.CX P w) (k + 1) f fd ps (FP K mg ps.length (fnD np N.length m)) :=
  okN F S (fun vs H Q E h => h.1) fun cdv A outer s H vs Q E hr h => def_core (hbody cdv A outer s H E hr) h
/-! ### comprehensions -/
variable {np : Asm}
theorem de_comp {elt tg it : Expr} {ifs : List Expr} {scope : Scope} {own : List (Str × Nat)} {pos : Pos} {t : TG} {mi : Env → Rs (List D)} {g : MG} {c : Env → Rs Bool} {m : ME} (hc : X.calm = true) (hN : X.N.Nodup) (ok : BlkOk X.N X.env.scope scope own) (hv : ∀ i ∈ own.map (·.2), i ∉ np.np)
    (hi : DI X W np tg it mi) (hg : ∀ i : BlkIx, PG (blkAt X scope i) tg t) (gs : GSnd X.K np t g) (gw : GW t (own.map (·.2))) (ht : ∀ i : BlkIx, DTs (blkAt X scope i) W0 np ifs c) (he : ∀ i : BlkIx, DE (blkAt X scope i) W0 np elt m) (hs : ∀ x, foldedSetIterable it X.env x = pure x := by intro _; rfl) :
    DE X W np (.ListComp elt [⟨tg, it, ifs, 0⟩] scope pos) (mComp mi (own.map (·.2)) g c m) := by
  obtain ⟨wi, pi, si⟩ := hi.ex
  obtain ⟨tt, pt, sT⟩ := uni_ts ht
  obtain ⟨te, pe, sE⟩ := uni_e he
  exact ⟨_, pe_lc hc hN pi ok (fun s H C cl fp => hg (s, H, C, cl, fp)) (fun s H C cl fp => pt (s, H, C, cl, fp)) (fun s H C cl fp => pe (s, H, C, cl, fp)) hs, esnd_comp hv si gs gw sT sE⟩
theorem ds_comp {i : Nat} {y : Str} {py : Pos} {elt tg it : Expr} {ifs : List Expr} {scope : Scope} {own : List (Str × Nat)} {pos spos : Pos} {t : TG} {mi : Env → Rs (List D)} {g : MG} {c : Env → Rs Bool} {m : ME} (hc : X.calm = true) (hN : X.N.Nodup) (ok : BlkOk X.N X.env.scope scope own) (hv : ∀ i ∈ own.map (·.2), i ∉ np.np)
    (hi : DI X W np tg it mi) (hg : ∀ i : BlkIx, PG (blkAt X scope i) tg t) (gs : GSnd X.K np t g) (gw : GW t (own.map (·.2))) (ht : ∀ i : BlkIx, DTs (blkAt X scope i) W0 np ifs c) (he : ∀ i : BlkIx, DE (blkAt X scope i) W0 np elt m)
    (hsw : swapsWith (.ListComp elt [⟨tg, it, ifs, 0⟩] scope pos) (some (.Name y py)) spos.line X.env = pure true) (hin : i ∉ np.np := by decide) (hy : X.N[i]? = some y := by rfl) (hyl : X.env.scope.names.lookup y = some .local := by rfl) (hs : ∀ x, foldedSetIterable it X.env x = pure x := by intro _; rfl) :
    DS X W np (.Assign [.Name y py] (.ListComp elt [⟨tg, it, ifs, 0⟩] scope pos) spos) (mSet i (mComp mi (own.map (·.2)) g c m)) := by
  obtain ⟨wi, pi, si⟩ := hi.ex
  obtain ⟨tt, pt, sT⟩ := uni_ts ht
  obtain ⟨te, pe, sE⟩ := uni_e he
  exact ⟨_, ps_setLc hc hN hy hyl hsw pi ok (fun s H C cl fp => hg (s, H, C, cl, fp)) (fun s H C cl fp => pt (s, H, C, cl, fp)) (fun s H C cl fp => pe (s, H, C, cl, fp)) hs, ssnd_set hin (esnd_comp hv si gs gw sT sE)⟩
end
end Dn
end
section
set_option Elab.async false
set_option linter.all false
set_option maxRecDepth 100000
set_option maxHeartbeats 4000000
/-! Dn10: own exceptions: made, raised, caught. -/
namespace Dn
open PySem PySem.Spec L2
open PyProof.Rows hiding St
/-- __init__(self, f): self.f = f;  __init__(self, f, g): self.f = f; self.g = g -/
def spI (C : Addr) (ns : List Str) : Sp := fun vs H Q _ => vs.length = ns.length + 1 ∧ ∃ (a : Addr) (xs : List V), vs = .ref a :: xs ∧ H a = some (exo a C none) ∧
  ∀ (dx : Addr), H dx = none → dx ≠ a → Q .non (upd (upd H a (exo a C (some dx))) dx (exd dx (ns.zip xs).reverse))
section
variable {P : Program} {w : World} {K : PySem.W.Frag} {mg : Str → Option Value} {base : Heap}
theorem upd_comm {H : Hp} {a b : Addr} {o u : HO} (h : a ≠ b) : upd (upd H a o) b u = upd (upd H b u) a o := by
  funext c
  by_cases h1 : c = a
  · subst h1
    rw [upd_ne h, upd_same, upd_same]
  · by_cases h2 : c = b
    · subst h2
      rw [upd_same, upd_ne h1, upd_same]
    · rw [upd_ne h2, upd_ne h1, upd_ne h1, upd_ne h2]
theorem ok_init1 {C f : Addr} {fd : FuncData} {x y qual : Str} {st : Stmt} {p1 p2 p3 p4 : Pos} (T : OexC K C) (F : Fun K "__init__" qual st f fd) (S : FnScope [x, y] [x, y] (defScope st)) (eb : defBody st = [.Assign [.Attribute (.Name x p1) y p2] (.Name y p3) p4]) (hno : PySem.W.findIn K (.ref C) y = some none)
    (hx : ∀ (X : Cx), X.env.scope = defScope st → X.N = [x, y] → PE X (.Name x p1) (tVar 0)) (hy : ∀ (X : Cx), X.env.scope = defScope st → X.N = [x, y] → PE X (.Name y p3) (tVar 1))
    (hs : ∀ (X : Cx), swapsWith (.Name y p3) (some (.Attribute (.Name x p1) y p2)) p4.line X.env = pure false) : FnOk P w K mg base (L2N.CX P w) 1 f fd [x, y] (spI C [y]) := by
  refine okN F S (fun vs H Q E h => h.1) fun cdv A outer s H vs Q E hr h => ?_
  obtain ⟨hl, a, xs, rfl, ha, q⟩ := h
  match xs, hl with
  | [v], _ =>
    rw [eb]
    refine ⟨_, pss_one (ps_ost (hx _ rfl rfl) (hy _ rfl rfl) (hs _)), ?_⟩
    refine ⟨v, rfl, .ref a, rfl, a, C, rfl, T, hno, .inl ⟨ha, fun dx nx ne => ?_⟩⟩
    have := q dx nx ne
    rw [upd_comm ne.symm] at this
    exact this
theorem ok_init2 {C f : Addr} {fd : FuncData} {x y z qual : Str} {st : Stmt} {p1 p2 p3 p4 p5 p6 p7 p8 : Pos} (T : OexC K C) (F : Fun K "__init__" qual st f fd) (S : FnScope [x, y, z] [x, y, z] (defScope st)) (eb : defBody st = [.Assign [.Attribute (.Name x p1) y p2] (.Name y p3) p4, .Assign [.Attribute (.Name x p5) z p6] (.Name z p7) p8]) (hno : PySem.W.findIn K (.ref C) y = some none) (hno2 : PySem.W.findIn K (.ref C) z = some none)
    (hx : ∀ (X : Cx) (p : Pos), X.env.scope = defScope st → X.N = [x, y, z] → PE X (.Name x p) (tVar 0)) (hy : ∀ (X : Cx), X.env.scope = defScope st → X.N = [x, y, z] → PE X (.Name y p3) (tVar 1)) (hz : ∀ (X : Cx), X.env.scope = defScope st → X.N = [x, y, z] → PE X (.Name z p7) (tVar 2))
    (hs : ∀ (X : Cx), swapsWith (.Name y p3) (some (.Attribute (.Name x p1) y p2)) p4.line X.env = pure false) (hs2 : ∀ (X : Cx), swapsWith (.Name z p7) (some (.Attribute (.Name x p5) z p6)) p8.line X.env = pure false) : FnOk P w K mg base (L2N.CX P w) 1 f fd [x, y, z] (spI C [y, z]) := by
  refine okN F S (fun vs H Q E h => h.1) fun cdv A outer s H vs Q E hr h => ?_
  obtain ⟨hl, a, xs, rfl, ha, q⟩ := h
  match xs, hl with
  | [v, u], _ =>
    rw [eb]
    refine ⟨_, pss_cons (ps_ost (hx _ _ rfl rfl) (hy _ rfl rfl) (hs _)) (pss_one (ps_ost (hx _ _ rfl rfl) (hz _ rfl rfl) (hs2 _))), ?_⟩
    refine ⟨v, rfl, .ref a, rfl, a, C, rfl, T, hno, .inl ⟨ha, fun dx nx ne => ?_⟩⟩
    refine ⟨u, rfl, .ref a, rfl, a, C, rfl, T, hno2, .inr ⟨dx, [(y, v)], upd_same, ?_, ?_, ?_⟩⟩
    · rw [upd_ne ne, upd_same]
    · show 1 ≤ 900
      decide
    · show Q .non (upd (upd (upd H dx (exd dx [(y, v)])) a (exo a C (some dx))) dx (exd dx [(z, u), (y, v)]))
      rw [upd_comm ne, upd_upd]
      exact q dx nx ne
theorem passLN {X : Cx} : Passes (L2N.CX X.prog X.w) X (fun _ _ _ => False) := fun pins σ H s e s' I c => by
  obtain ⟨_, _, _, _, _, _, _, _, _, _, _, _, z⟩ := c
  exact z.elim
theorem takes0N {X : Cx} : L2N.Takes X (fun _ _ _ _ => False) := fun u s' c => by
  obtain ⟨_, _, _, _, _, _, _, _, _, _, _, _, _, _, _, _, z⟩ := c
  exact z.elim
/-- an own exception made where nothing is handled: its context is None -/
theorem pmk_oexN {X : Cx} {CX : CXT} {x : Str} {e : Expr} {es : List Expr} {ta : TA} {p pos : Pos} {C g : Addr} {k : Nat} {fd : FuncData} {ps : List Str} {sp : Sp} (T : OexC X.K C)
    (iC : PySem.W.findIn X.K (.ref C) "__init__" = some (some (.ref g))) (tI : PySem.W.typeIn X.K (.ref g) = some (.type "function")) (F1 : FnOk X.prog X.w X.K X.mg X.base CX k g fd ps sp) (room : Room (k + 1) X.A)
    (bi : Binds X.K fd ps []) (pass : Passes CX X (fun _ _ _ => False)) (gl : Gl X x) (hm : X.mg x = some (.ref C)) (ha : PA X (e :: es) ta)
    (ndb : (x == ("__debug__" : Str)) = false) (sh : starEach (e :: es) X.env = (false, eval e X.env) :: starEach es X.env) (pl : (backTo pos (starEach es X.env)).any (·.1) = false) :
    L2N.PMk X (.Call (.Name x p) (e :: es) [] pos) (tMkO C sp [] ta) := by
  intro pins s σ H Q I0 h0
  obtain ⟨_, _, _, _, bm, _, _, _, _, _, _, _, _, _, _, clsAt, cbm⟩ := T.cls
  refine wpAny_Call_Name_kw (ld_glob I0 gl hm (PySem.W.callWith_K (h₀ := X.base) I0.ok.mod.kin T.kC (thn (ha.run pos pins s σ H _ I0 h0) fun us s1 got => ?_) sh pl) ndb)
  obtain ⟨vs, H1, I1, rv1, len1, owed⟩ := got
  refine ⟨I1.kIn, ?_⟩
  show wpAny _ _ (call (.ref C) us) _ _ _
  obtain ⟨hp, gn, dr, tk, os⟩ := s1
  -- the two new objects
  have le1 : hp.objs.size ≤ hp.objs.size + 1 := Nat.le_succ _
  have free1 : H1 (hp.objs.size + 1) = none := I1.hok.fresh le1
  have due := owed (hp.objs.size + 1) free1
  rw [List.append_nil] at due
  generalize eh : (hp.push (PySem.W.kdv_tup us)).push (PySem.HandSPX.excO C hp.objs.size) = hq
  have old : ∀ b o, hp.get? b = some o → hq.get? b = some o := fun b o z => by
    rw [← eh]
    exact Heap.get?_push_of_some _ (Heap.get?_push_of_some _ z)
  have new : hq.get? (hp.objs.size + 1) = some (PySem.HandSPX.excO C hp.objs.size) := by
    rw [← eh]
    heap_get
  have I2 : Inv X pins σ (upd H1 (hp.objs.size + 1) (exo (hp.objs.size + 1) C none)) ⟨hq, gn, dr, tk, os⟩ := I1.laid (t' := tk) (a := hp.objs.size + 1) (o := exo (hp.objs.size + 1) C none) old le1 (exo_ok new)
  have rv2 : Vals (V.ref (hp.objs.size + 1) :: vs) (Value.ref (hp.objs.size + 1) :: us) := .cons rfl rv1
  have len2 : (Value.ref (hp.objs.size + 1) :: us ++ []).length = ps.length := by
    rw [List.append_nil, ← rv2.length]
    exact F1.len _ _ _ _ due
  have few : us.length ≤ sizeLine := by
    have := Paired.length rv1
    rw [sizeLine_eq]
    omega
  have bound := bi _ (Value.ref (hp.objs.size + 1) :: us) I2.kIn len2
  rw [List.append_nil] at bound
  have run := F1.run _ X.stack _ _ ⟨Value.ref (hp.objs.size + 1) :: us, []⟩ (Value.ref (hp.objs.size + 1) :: us) _ _ (fun _ _ _ => False) (room.make C us []) (I2.env0.make C us []) bound rv2 due
  rw [← eh] at run
  refine wpAny_call (PySem.HandSPX.call_own F.excBase_ValueError (fun Y => PySem.HandSPX.refsVE_contains Y bm cbm) (I1.kIn _ _ clsAt) (PySem.W.looks_findIn I1.kIn iC) (fun self => PySem.W.bind_fn I1.kIn self tI) few (codeAny_mono run fun r s' out => ?_))
  cases r with
  | error er =>
    refine pass pins σ _ _ er s' I2 ?_
    rw [← eh]
    exact out
  | ok fl =>
    cases fl with
    | ret u =>
      rw [eh] at out
      obtain ⟨v, H2, o1, o2, o3, o4, rv, ev, d, fs, ea, ed, hd, qq⟩ := out
      subst ev
      obtain ⟨h2, g2, d2, t2, os'⟩ := s'
      obtain ⟨t0, G, J, kG, ge, oe, na⟩ := mk_end0 (d2 := d2) (t2 := t2) I1 le1 old o3 o4 o1 o2 ea ed hd
      refine ⟨rv, hp.objs.size + 1, _, _, ⟨G, g2, d2, t2, os'⟩, _, .ref C, some d, rfl, J, kG, ge, oe, ?_, rfl, rfl, na, rfl, o2, raises_own T.exC T.tyC, qq⟩
      refine ⟨rfl, rfl, fun vs q => ?_⟩
      cases q
      rfl
    | next => exact out.elim
    | brk => exact out.elim
    | cont => exact out.elim
/-! ### raise -/
/-- raise cls(..) with the fields ns -/
def mRaise (cls : Str) (ns : List Str) (ks : List AK) : MS := fun env => match evalA ks env with
  | .ok cs e => match allS cs with
    | some os => .exc ⟨cls, (ns.zip (frzs os)).reverse⟩ e
    | none => .fail
  | .exc x e => .exc x e
  | .fail => .fail
end
section
variable {X : Cx} {W : WX} {np : Asm} {K : PySem.W.Frag} {mg : Str → Option Value}
theorem Reps.snoc {G : Hp} : ∀ {vs : List V} {xs : List D} {v : V} {x : D}, Reps K G vs xs → Rep K G v x → Reps K G (vs ++ [v]) (xs ++ [x])
  | _, _, _, _, .nil, h => .cons h .nil
  | _, _, _, _, .cons q r, h => .cons q (r.snoc h)
theorem Reps.rev {G : Hp} : ∀ {vs : List V} {xs : List D}, Reps K G vs xs → Reps K G vs.reverse xs.reverse
  | _, _, .nil => .nil
  | _, _, .cons q r => by
    rw [List.reverse_cons, List.reverse_cons]
    exact r.rev.snoc q
theorem zip_fst {α β γ : Type} : ∀ {ns : List α} {vs : List β} {xs : List γ}, vs.length = xs.length → (ns.zip vs).map Prod.fst = (ns.zip xs).map Prod.fst
  | [], _, _, _ => by simp
  | _ :: _, [], [], _ => rfl
  | _ :: _, [], _ :: _, h => by cases h
  | _ :: _, _ :: _, [], h => by cases h
  | n :: ns, v :: vs, x :: xs, h => by
    rw [List.zip_cons_cons, List.zip_cons_cons, List.map_cons, List.map_cons, zip_fst (ns := ns) (Nat.succ.inj h)]
theorem zip_snd {G : Hp} : ∀ {ns : List Str} {vs : List V} {xs : List D}, Reps K G vs xs → Reps K G ((ns.zip vs).map Prod.snd) ((ns.zip xs).map Prod.snd)
  | [], _, _, _ => .nil
  | _ :: _, _, _, .nil => .nil
  | _ :: _, _, _, .cons q r => .cons q (zip_snd r)
theorem del_upd {H : Hp} {a : Addr} {o : HO} (h : H a = none) : del (upd H a o) a = H := by
  funext b
  by_cases e : b = a
  · subst e
    rw [del_same, h]
  · rw [del_ne e, upd_ne e]
theorem del_comm {H : Hp} {a b : Addr} {o : HO} (h : a ≠ b) : del (upd H b o) a = upd (del H a) b o := by
  funext c
  by_cases h1 : c = a
  · subst h1
    rw [del_same, upd_ne h, del_same]
  · by_cases h2 : c = b
    · subst h2
      rw [del_ne h1, upd_same, upd_same]
    · rw [del_ne h1, upd_ne h2, upd_ne h2, del_ne h1]
theorem ds_raise {C fI : Addr} {k : Nat} {fd : FuncData} {ps : List Str} {ns : List Str} {x : Str} {e : Expr} {es : List Expr} {ks : List AK} {p pos pos' : Pos} (hc : X.calm = true) (tk : L2N.Takes X W) (T : OexC X.K C) (iC : PySem.W.findIn X.K (.ref C) "__init__" = some (some (.ref fI))) (tI : PySem.W.typeIn X.K (.ref fI) = some (.type "function"))
    (F1 : FnOk X.prog X.w X.K X.mg X.base (L2N.CX X.prog X.w) k fI fd ps (spI C ns)) (hr : Room (k + 1) X.A) (hb : Binds X.K fd ps []) (hm : X.mg x = some (.ref C)) (ha : DA X W np (e :: es) ks) (hn : ks.length = ns.length := by rfl) (hn3 : ns.length ≤ 3 := by decide) (hg : Gl X x := by rfl)
    (hdb : (x == ("__debug__" : Str)) = false := by decide) (he : starEach (e :: es) X.env = (false, eval e X.env) :: starEach es X.env := by rfl) (hpl : (backTo pos (starEach es X.env)).any (·.1) = false := by rfl) : DS X W np (.Raise (some (.Call (.Name x p) (e :: es) [] pos)) none pos') (mRaise x ns ks) := by
  obtain ⟨t, q, s⟩ := ha.ex
  refine ⟨_, L2N.ps_raise hc tk (pmk_oexN T iC tI F1 hr hb passLN hg hm q hdb (by exact he) (by exact hpl)), fun Γ σ env G H D hp r h => s Γ σ env [] [] G H _ hp r ?_⟩
  unfold mRaise at h
  cases e1 : evalA ks env with
  | ok cs e' =>
    simp only [e1] at h
    intro vs G1 H1 hl r1 n1
    cases e2 : allS cs with
    | none =>
      simp only [e2] at h
      exact False.elim h
    | some os =>
      simp only [e2] at h
      have ec := allS_of e2
      subst ec
      have hl' : vs.length = os.length := by
        rw [← hl, List.length_map]
      have hlv : vs.length = ns.length := (areNm_len n1).trans hn
      obtain ⟨G2, r2, q2⟩ := r1.frzN hl'
      refine ⟨by omega, fun a na => ?_⟩
      refine ⟨by rw [List.append_nil, List.length_cons, hlv], a, vs, by rw [List.append_nil], upd_same, fun dx nx ne => ⟨rfl, dx, (ns.zip vs).reverse, ?_, upd_same, ?_, ?_⟩⟩
      · rw [upd_ne ne.symm, upd_same]
      · have := nx
        rw [upd_ne ne] at this
        exact this
      · have nx1 : H1 dx = none := by
          have := nx
          rw [upd_ne ne] at this
          exact this
        have eH : upd (del (upd (upd (upd H1 a (exo a C none)) a (exo a C (some dx))) dx (exd dx (ns.zip vs).reverse)) a) dx (.xd (ns.zip vs).reverse) = upd H1 dx (.xd (ns.zip vs).reverse) := by
          rw [upd_upd, del_comm ne.symm, del_upd na, upd_upd]
        rw [eH]
        obtain ⟨r3, sg⟩ := r2.newG (o := .xd (ns.zip vs).reverse) nx1
        refine h σ (.ref C) (some dx) _ _ r3 ⟨C, dx, (ns.zip vs).reverse, rfl, hm, rfl, upd_same, ?_, ?_⟩
        · rw [List.map_reverse, List.map_reverse, zip_fst q2.length]
        · rw [List.map_reverse, List.map_reverse]
          exact (zip_snd (q2.mono sg)).rev
  | exc xx e' =>
    simp only [e1] at h
    exact fun c d G' H' r q => h σ c d G' H' r q
  | fail =>
    simp only [e1] at h
    exact h
/-! ### try .. except X as n -/
def finE (i : Nat) : SR → SR
  | .nx e => .nx (e.set i none)
  | .rt o e => .rt o (e.set i none)
  | .bk e => .bk (e.set i none)
  | .ct e => .ct (e.set i none)
  | .exc x e => .exc x e
  | .fail => .fail
def mTry (catches : Str → Option Bool) (i : Nat) (b : MS) (h : Exc → MS) : MS := fun env => match b env with
  | .exc x e => match catches x.cls with
    | some true => if i < e.length then match h x (e.set i none) with
      | .exc _ _ => .fail
      | r => finE i r
      else .fail
    | some false => .exc x e
    | none => .fail
  | r => r
/-- while an exception is handled: slot i holds it, its fields are told by x -/
def hFact (K : PySem.W.Frag) (mg : Str → Option Value) (i : Nat) (a : Addr) (x : Exc) (c : Value) (d : Option Addr) : Ctx → Prop := fun Γ => Γ.pin i = some (.ref a) ∧ ∀ H, XRep K mg Γ.G0 H x c d
def hAsm (K : PySem.W.Frag) (mg : Str → Option Value) (np : List Nat) (i : Nat) (a : Addr) (x : Exc) (c : Value) (d : Option Addr) : Asm := ⟨i :: np, hFact K mg i a x c d, fun Γ H G P s ⟨h1, h2⟩ => ⟨h1, fun H' => by
  obtain ⟨C, dd, fs, e1, e2, e3, e4, e5, e6⟩ := h2 H'
  exact ⟨C, dd, fs, e1, e2, e3, s _ _ e4, e5, e6.mono s⟩⟩⟩
theorem R.hold {H0 G0 : Hp} {P : List Addr} {pin : Nat → Option V} {σ : St} {e : Env} {τ : List (Option V)} {stk : Env} {G H : Hp} {i : Nat} {a : Addr} (r : R K ⟨H0, G0, P, pin⟩ σ e τ stk G H) (pn0 : pin i = none) (hl : i < e.length) : R K ⟨H0, G0, P, fun j => if j = i then some (.ref a) else pin j⟩ (σ.set i (some (.ref a))) (e.set i none) τ stk G H := by
  have len := r.len
  obtain ⟨f1, f2, c, s, n, m⟩ := r.ex
  obtain ⟨g, c1, s1⟩ := c.clear (i := i) (some (.ref a))
  have sl : (g ++ f2).Sublist (f1 ++ f2) := List.Sublist.append s1 (.refl _)
  refine ⟨⟨r.wd.sub, r.wd.ext, r.wd.fr⟩, fun j v h => ?_, g, f2, c1, s, n.sublist sl, fun a h => m a (sl.subset h)⟩
  dsimp only at h
  by_cases ej : j = i
  · subst ej
    rw [if_pos rfl] at h
    cases h
    rw [List.getElem?_set_self (by omega)]
  · rw [if_neg ej] at h
    rw [List.getElem?_set_ne (fun z => ej z.symm)]
    exact r.pin j v h
theorem R.unhold {H0 G0 : Hp} {P : List Addr} {pin : Nat → Option V} {σ : St} {e : Env} {τ : List (Option V)} {stk : Env} {G H : Hp} {i : Nat} {a : Addr} (r : R K ⟨H0, G0, P, fun j => if j = i then some (.ref a) else pin j⟩ σ e τ stk G H) (pn0 : pin i = none) : R K ⟨H0, G0, P, pin⟩ (σ.set i none) (e.set i none) τ stk G H := by
  obtain ⟨f1, f2, c, s, n, m⟩ := r.ex
  obtain ⟨g, c1, s1⟩ := c.clear (i := i) none
  have sl : (g ++ f2).Sublist (f1 ++ f2) := List.Sublist.append s1 (.refl _)
  refine ⟨⟨r.wd.sub, r.wd.ext, r.wd.fr⟩, fun j v h => ?_, g, f2, c1, s, n.sublist sl, fun a h => m a (sl.subset h)⟩
  have ej : j ≠ i := fun z => by
    subst z
    have h' : pin j = some v := h
    rw [pn0] at h'
    cases h'
  rw [List.getElem?_set_ne (fun z => ej z.symm)]
  refine r.pin j v ?_
  show (if j = i then some (V.ref a) else pin j) = some v
  rw [if_neg ej]
  exact h
theorem ds_try {x n : Str} {c : Value} {i : Nat} {body suite : List Stmt} {b₀ : Stmt} {npos pos pos' : Pos} {mb : MS} {mh : Exc → MS} {catches : Str → Option Bool} {nl : List Nat} (hs : X.stack = X.env :: X.outer) (hf : X.env.frame = some X.env.locals) (hN : X.N.Nodup) (hi : X.N[i]? = some n) (hln : X.env.kindOf n = some .local) (hx : Names X x c) (tk : L2N.Takes X W) (hin : i ∉ nl)
    (hcat : ∀ (cls : Str) (C : Addr) (b : Bool), X.mg cls = some (.ref C) → catches cls = some b → PySem.W.exmOne X.K (.ref C) c = some b)
    (hb : ∀ (W : WX) (pn : List (Addr × Obj)) (xe : Value → Shared → Prop), L2N.Takes (X.tr pn xe) W → PassesOwn (model X.prog X.w) X.A X.env xe → DSs (X.tr pn xe) W (asm nl) body mb)
    (hsu : ∀ (xx : Exc) (a : Addr) (oe : Obj) (cls : Value) (d : Option Addr) (pn : List (Addr × Obj)), L2N.Zn cls d oe → (∃ vs, oe.data = .fields vs) → DSs (X.suite a ((a, oe) :: pn)) W0 (hAsm X.K X.mg nl i a xx cls d) (b₀ :: suite) (mh xx)) :
    DS X W (asm nl) (.Try body [.ExceptHandler (some (.Name x npos)) (some n) (b₀ :: suite) pos'] [] [] pos) (mTry catches i mb mh) := by
  refine ⟨_, L2N.ps_try_as (c := c) (i := i) (tb := fun W => fun D σ H => ∀ (pn : List (Addr × Obj)) (xe : Value → Shared → Prop), L2N.Takes (X.tr pn xe) W → PassesOwn (model X.prog X.w) X.A X.env xe → ∃ t, PSs (X.tr pn xe) body t ∧ t D σ H)
    (ts := fun a cls d => fun D σ H => ∀ (oe : Obj) (pn : List (Addr × Obj)), L2N.Zn cls d oe → (∃ vs, oe.data = .fields vs) → ∃ t, PSs (X.suite a ((a, oe) :: pn)) (b₀ :: suite) t ∧ t D σ H) hs hf hN hi hln hx tk (fun W pn xe tk po => ⟨fun pins s σ H D I h => ?_⟩) (fun a oe cls d pn hz hd => ⟨fun pins s σ H D I h => ?_⟩), fun Γ σ env G H D hp r h => ?_⟩
  · obtain ⟨t, p, q⟩ := h pn xe tk po
    exact p.run pins s σ H D I q
  · obtain ⟨t, p, q⟩ := h oe pn hz hd
    exact p.run pins s σ H D I q
  · intro pn xe tk' po
    obtain ⟨t, p, s⟩ := (hb _ pn xe tk' po).ex
    refine ⟨t, p, s Γ σ env G H D hp r ?_⟩
    unfold mTry at h
    cases eb : mb env with
    | exc xx e =>
      simp only [eb] at h
      intro σ' cc d G' H' r' xr
      obtain ⟨C, dd, fs, e1, e2, e3, e4, e5, e6⟩ := id xr
      subst e1
      cases ec : catches xx.cls with
      | none =>
        simp only [ec] at h
        exact False.elim h
      | some b =>
        refine ⟨b, hcat _ _ _ e2 ec, fun hbt a na => ?_, fun hbf => ?_⟩
        · subst hbt
          simp only [ec] at h
          intro oe pn hz hd
          obtain ⟨t2, p2, s2⟩ := (hsu xx a oe (.ref C) d pn hz hd).ex
          refine ⟨t2, p2, ?_⟩
          have pn0 : Γ.pin i = none := by
            cases q : Γ.pin i with
            | none => rfl
            | some v => exact absurd (hp.1 i v q) hin
          by_cases hlen : i < e.length
          · rw [if_pos hlen] at h
            obtain ⟨Pp, r1, kb⟩ := r'.rebase
            have r2 := R.hold (a := a) r1 pn0 hlen
            refine s2 _ _ _ _ _ _ ⟨fun j v q => ?_, ?_, fun H => ?_⟩ r2 ?_
            · by_cases e : j = i
              · subst e
                exact List.mem_cons_self
              · dsimp only at q
                rw [if_neg e] at q
                exact List.mem_cons_of_mem _ (hp.1 j v q)
            · exact if_pos rfl
            · exact ⟨C, dd, fs, rfl, e2, e3, e4, e5, e6⟩
            · cases eh : mh xx (e.set i none) with
              | nx e3 =>
                simp only [eh] at h
                exact fun σ2 G2 H2 r => h _ G2 H2 (kb _ _ _ _ _ _ (R.unhold r pn0))
              | rt o e3 =>
                simp only [eh] at h
                exact fun σ2 v G2 H2 r => h _ v G2 H2 (kb _ _ _ _ _ _ (R.unhold r pn0))
              | bk e3 =>
                simp only [eh] at h
                exact fun σ2 G2 H2 r => h _ G2 H2 (kb _ _ _ _ _ _ (R.unhold r pn0))
              | ct e3 =>
                simp only [eh] at h
                exact fun σ2 G2 H2 r => h _ G2 H2 (kb _ _ _ _ _ _ (R.unhold r pn0))
              | exc x3 e3 =>
                simp only [eh] at h
                exact False.elim h
              | fail =>
                simp only [eh] at h
                exact False.elim h
          · rw [if_neg hlen] at h
            exact False.elim h
        · subst hbf
          simp only [ec] at h
          exact h σ' _ d G' H' r' xr
    | nx e =>
      simp only [eb] at h
      exact h
    | rt o e =>
      simp only [eb] at h
      exact h
    | bk e =>
      simp only [eb] at h
      exact h
    | ct e =>
      simp only [eb] at h
      exact h
    | fail =>
      simp only [eb] at h
      exact False.elim h
end
end Dn
end
section
set_option Elab.async false
set_option linter.all false
set_option maxRecDepth 100000
set_option maxHeartbeats 4000000
/-! Dn11: what a handler reads off the exception. -/
namespace Dn
open PySem PySem.Spec L2
open PyProof.Rows hiding St
/-- e.n, e the exception that is handled -/
def mXf (known : Str → Bool) (n : Str) (x : Exc) : ME := fun env => if known x.cls then match x.fs.lookup n with
    | some d => .ok (.d d) env
    | none => .fail
  else .fail
section
variable {X : Cx} {W : WX} {K : PySem.W.Frag} {mg : Str → Option Value}
theorem lookup_rep {G : Hp} {n : Str} : ∀ {fs : List (Str × V)} {gs : List (Str × D)} {x : D}, fs.map Prod.fst = gs.map Prod.fst → Reps K G (fs.map Prod.snd) (gs.map Prod.snd) → gs.lookup n = some x → ∃ v, fs.lookup n = some v ∧ Rep K G v x
  | _, [], _, _, _, h => by cases h
  | [], _ :: _, _, h, _, _ => by cases h
  | (a, v) :: fs, (b, y) :: gs, x, h, r, e => by
    have h1 : a = b := (List.cons.inj h).1
    have h2 := (List.cons.inj h).2
    subst h1
    cases r with
    | cons q r =>
      rw [List.lookup_cons] at e ⊢
      cases c : n == a with
      | true =>
        rw [c] at e
        cases e
        exact ⟨v, rfl, q⟩
      | false =>
        rw [c] at e
        exact lookup_rep h2 r e
theorem de_xf {nl : List Nat} {i : Nat} {a : Addr} {oe : Obj} {pn : List (Addr × Obj)} {xx : Exc} {cls : Value} {d : Option Addr} {nm n : Str} {q pos : Pos} {known : Str → Bool} (hz : L2N.Zn cls d oe) (hf : ∃ vs, oe.data = .fields vs)
    (hk : ∀ (c : Str) (C : Addr), X.mg c = some (.ref C) → known c = true → XfC X.K C ∧ PySem.W.findIn X.K (.ref C) n = some none)
    (hN : X.N[i]? = some nm := by rfl) (hv : Vis X.env.scope nm := by first | exact Or.inl rfl | exact Or.inr (Or.inl rfl) | exact Or.inr (Or.inr rfl)) (hd : (nm == ("__debug__" : Str)) = false := by decide) (hcd : (nm == ("__classdict__" : Str)) = false := by decide)
    (hb : attributeBase (.Name nm q) n (X.suite a ((a, oe) :: pn)).env (eval (.Name nm q) (X.suite a ((a, oe) :: pn)).env) = eval (.Name nm q) (X.suite a ((a, oe) :: pn)).env := by rfl) :
    DE (X.suite a ((a, oe) :: pn)) W (hAsm X.K X.mg nl i a xx cls d) (.Attribute (.Name nm q) n pos) (mXf known n xx) := by
  by_cases h : ∃ C, cls = .ref C ∧ XfC X.K C ∧ PySem.W.findIn X.K (.ref C) n = some none
  · obtain ⟨C, ec, T, hno⟩ := h
    refine ⟨_, pe_xf (X := X) T hno hz.zc hf (pe_var (i := i) hN hv hd hcd) hb, fun Γ σ env τ stk G H Q hp r h => ?_⟩
    obtain ⟨_, hpin, hx⟩ := hp
    unfold mXf at h
    by_cases hkn : known xx.cls = true
    · rw [if_pos hkn] at h
      cases hl : xx.fs.lookup n with
      | none => simp only [hl] at h; exact False.elim h
      | some y =>
        simp only [hl] at h
        obtain ⟨C', dd, fs, e1, e2, e3, e4, e5, e6⟩ := hx H
        obtain ⟨v, lv, rv⟩ := lookup_rep e5 e6 hl
        exact ⟨.ref a, r.pin i _ hpin, rfl, ec, dd, fs, v, e3, r.wd.sub _ _ (r.wd.ext _ _ e4), lv, h v G H (r.pushD (rv.mono r.wd.ext))⟩
    · rw [if_neg hkn] at h
      exact False.elim h
  · refine ⟨fun _ _ _ => False, ⟨fun pins s σ H Q I h => h.elim⟩, fun Γ σ env τ stk G H Q hp r hq => ?_⟩
    obtain ⟨_, hpin, hx⟩ := hp
    unfold mXf at hq
    by_cases hkn : known xx.cls = true
    · obtain ⟨C', dd, fs, e1, e2, _⟩ := hx H
      exact h ⟨C', e1, hk _ _ e2 hkn⟩
    · rw [if_neg hkn] at hq
      exact hq
/-- isinstance(e, X) -/
def mXi (ans : Str → Option Bool) (x : Exc) : ME := fun env => match ans x.cls with
  | some b => .ok (.d (.bl b)) env
  | none => .fail
/-- what isinstance asks of an own exception class -/
structure XiC (K : PySem.W.Frag) (D : Addr) : Prop where
  hcl : (PySem.W.clsIn K D).isSome = true
  hg : PySem.W.findIn K (.ref D) "__getattribute__" = some (some (.builtin "BaseException.__getattribute__"))
  hk : PySem.W.findIn K (.ref D) "__getattr__" = some none
  hs : PySem.W.subIn K (.ref D) (.type "BaseException") = some true
  ha : PySem.W.findIn K (.ref D) "__class__" = some (some (.builtin "object.__class__"))
  hn : PySem.W.specialIn K (.builtin "object.__class__") "__get__" = some (some (.builtin "getset_descriptor.__get__"))
  ht : PySem.W.takesIn K (.builtin "object.__class__") = some true
  hm : PySem.W.mroIn K D (.type "object") = some true
def rXi (K : PySem.W.Frag) (a : Addr) (cls : Value) (d : Option Addr) : List V → Hp → VK → Prop := fun xs H Q => ∃ (C : Addr) (c : V) (cv : Value) (b : Bool) (dd : Addr) (fs : List (Str × V)), xs = [.ref a, c] ∧ (∀ u, RelV c u → u = cv) ∧ cls = .ref C ∧ XiC K C ∧ d = some dd ∧ H dd = some (.xd fs) ∧ PySem.W.kitOne K (.ref C) cv = some b ∧ Q (.bl b) H
theorem call_xi {a : Addr} {oe : Obj} {pn : List (Addr × Obj)} {cls : Value} {d : Option Addr} (hz : L2N.Zn cls d oe) (hf : ∃ vs, oe.data = .fields vs) : CallR (X.suite a ((a, oe) :: pn)) (.builtin "isinstance") (rXi X.K a cls d) := by
  intro pins s σ H xs us Q I r h
  obtain ⟨C, c, cv, b, dd, fs, ex, hcv, ec, T, ed, hd, hk, q⟩ := h
  subst ex ec ed
  cases r with
  | cons ra rr =>
    cases rr with
    | cons rc rr =>
      cases rr
      cases ra
      obtain rfl := hcv _ rc
      have hpin := I.pin (a, oe) (List.mem_append.mpr (.inl List.mem_cons_self))
      obtain ⟨vs, hv⟩ := hf
      obtain ⟨mA, ⟨o, es, ep, ho, _⟩, _⟩ := (show ObjOk _ _ H s.heap dd (.xd fs) from I.hok dd _ hd)
      have J : PySem.W.InstAt s.heap a oe C (some o) := ⟨hpin.1, hz.1, by unfold PySem.W.notCls; rw [hv] <;> rfl, by rw [hz.2.1]; exact ho⟩
      exact PySem.W.kia_one (PySem.W.kitx_exc T.hcl T.hg T.hk T.hs T.ha T.hn T.ht T.hm) I.kIn J hk (fun z => nomatch z) fun tk => ⟨.bl b, H, I.kept (t' := tk) fun _ _ z => z, rfl, q⟩
theorem de_xi {nl : List Nat} {i : Nat} {a : Addr} {oe : Obj} {pn : List (Addr × Obj)} {xx : Exc} {cls : Value} {d : Option Addr} {nm : Str} {e2 : Expr} {c : V} {cv : Value} {p q pos : Pos} {ans : Str → Option Bool} (hz : L2N.Zn cls d oe) (hf : ∃ vs, oe.data = .fields vs) (hi : X.mg "isinstance" = none)
    (hk : ∀ (c : Str) (C : Addr) (b : Bool), X.mg c = some (.ref C) → ans c = some b → XiC X.K C ∧ PySem.W.kitOne X.K (.ref C) cv = some b) (hc : PE (X.suite a ((a, oe) :: pn)) e2 (tC c)) (hcv : ∀ u, RelV c u → u = cv)
    (hN : X.N[i]? = some nm := by rfl) (hv : Vis X.env.scope nm := by first | exact Or.inl rfl | exact Or.inr (Or.inl rfl) | exact Or.inr (Or.inr rfl)) (hd : (nm == ("__debug__" : Str)) = false := by decide) (hcd : (nm == ("__classdict__" : Str)) = false := by decide) (hg : Gl X "isinstance" := by rfl)
    (he : starEach [.Name nm q, e2] X.env = (false, eval (.Name nm q) X.env) :: starEach [e2] X.env := by rfl) (he2 : starEach [e2] X.env = (false, eval e2 X.env) :: starEach [] X.env := by rfl) (hpl : (backTo pos (starEach [e2] X.env)).any (·.1) = false := by rfl) :
    DE (X.suite a ((a, oe) :: pn)) W (hAsm X.K X.mg nl i a xx cls d) (.Call (.Name "isinstance" p) [.Name nm q, e2] [] pos) (mXi ans xx) := by
  refine ⟨_, pe_callB (call_xi hz hf) hg hi (by decide +kernel) (pa_cons (pe_var (i := i) hN hv hd hcd) (pa_cons hc pa_nil (by exact he2)) (by exact he)) (by decide) (by decide) (by exact he) (by exact hpl), fun Γ σ env τ stk G H Q hp r hq => ?_⟩
  obtain ⟨_, hpin, hx⟩ := hp
  obtain ⟨C', dd, fs, e1, e2', e3, e4, e5, e6⟩ := hx H
  unfold mXi at hq
  cases ea : ans xx.cls with
  | none => simp only [ea] at hq; exact False.elim hq
  | some b =>
    simp only [ea] at hq
    obtain ⟨T, k1⟩ := hk _ _ _ e2' ea
    exact ⟨.ref a, r.pin i _ hpin, C', c, cv, b, dd, fs, rfl, hcv, e1, T, e3, r.wd.sub _ _ (r.wd.ext _ _ e4), k1, hq _ G H (r.pushD (.bl b))⟩
end
end Dn
end
section
set_option Elab.async false
set_option linter.all false
set_option maxRecDepth 100000
set_option maxHeartbeats 4000000
/-! Dn12: methods that change a list of its own, stores, slices. -/
namespace Dn
open PySem PySem.Spec L2
open PyProof.Rows hiding St
section
variable {X : Cx} {W : WX} {np : Asm} {K : PySem.W.Frag} {mg : Str → Option Value}
/-- pairs of values and things, in any order and some of them left out -/
theorem OReps.pairs {G H : Hp} : ∀ {L L' : List (V × O)} {f : List Addr}, L.Perm L' → OReps K G H (L.map Prod.fst) (L.map Prod.snd) f → ∃ f', OReps K G H (L'.map Prod.fst) (L'.map Prod.snd) f' ∧ f'.Perm f := by
  intro L L' f p
  induction p generalizing f with
  | nil => exact fun h => ⟨f, h, .refl _⟩
  | cons x p ih =>
    intro h
    cases h with
    | cons h1 h2 =>
      obtain ⟨f', h3, h4⟩ := ih h2
      exact ⟨_, .cons h1 h3, h4.append_left _⟩
  | swap x y l =>
    intro h
    cases h with
    | @cons _ _ fa _ _ fr h1 h2 =>
      cases h2 with
      | @cons _ _ fb _ _ fc h2 h3 =>
        refine ⟨fb ++ (fa ++ fc), .cons h2 (.cons h1 h3), ?_⟩
        rw [← List.append_assoc, ← List.append_assoc]
        exact List.Perm.append_right _ List.perm_append_comm
  | trans p q ih1 ih2 =>
    intro h
    obtain ⟨f1, h1, p1⟩ := ih1 h
    obtain ⟨f2, h2, p2⟩ := ih2 h1
    exact ⟨f2, h2, p2.trans p1⟩
theorem OReps.subl {G H : Hp} : ∀ {L L' : List (V × O)} {f : List Addr}, L'.Sublist L → OReps K G H (L.map Prod.fst) (L.map Prod.snd) f → ∃ f', OReps K G H (L'.map Prod.fst) (L'.map Prod.snd) f' ∧ f'.Sublist f := by
  intro L L' f p
  induction p generalizing f with
  | slnil => exact fun h => ⟨f, h, .refl _⟩
  | cons x p ih =>
    intro h
    cases h with
    | cons h1 h2 =>
      obtain ⟨f', h3, h4⟩ := ih h2
      exact ⟨f', h3, h4.trans (List.sublist_append_right _ _)⟩
  | cons_cons x p ih =>
    intro h
    cases h with
    | cons h1 h2 =>
      obtain ⟨f', h3, h4⟩ := ih h2
      exact ⟨_, .cons h1 h3, List.Sublist.append (.refl _) h4⟩
theorem zip_fst' {α β : Type} : ∀ {a : List α} {b : List β}, a.length = b.length → (a.zip b).map Prod.fst = a
  | [], [], _ => rfl
  | [], _ :: _, h => by cases h
  | _ :: _, [], h => by cases h
  | x :: a, y :: b, h => by rw [List.zip_cons_cons, List.map_cons, zip_fst' (Nat.succ.inj h)]
theorem zip_snd' {α β : Type} : ∀ {a : List α} {b : List β}, a.length = b.length → (a.zip b).map Prod.snd = b
  | [], [], _ => rfl
  | [], _ :: _, h => by cases h
  | _ :: _, [], h => by cases h
  | x :: a, y :: b, h => by rw [List.zip_cons_cons, List.map_cons, zip_snd' (Nat.succ.inj h)]
theorem OReps.append {G H : Hp} : ∀ {vs ws : List V} {os us : List O} {f g : List Addr}, OReps K G H vs os f → OReps K G H ws us g → OReps K G H (vs ++ ws) (os ++ us) (f ++ g)
  | _, _, _, _, _, _, .nil, q => q
  | _, _, _, _, _, _, .cons h r, q => by
    rw [List.append_assoc]
    exact .cons h (r.append q)
theorem OReps.split {G H : Hp} : ∀ {vs ws : List V} {os us : List O} {f : List Addr}, vs.length = os.length → OReps K G H (vs ++ ws) (os ++ us) f → ∃ fa fb, f = fa ++ fb ∧ OReps K G H vs os fa ∧ OReps K G H ws us fb
  | [], _, [], _, f, _, q => ⟨[], f, rfl, .nil, q⟩
  | [], _, _ :: _, _, _, h, _ => by cases h
  | _ :: _, _, [], _, _, h, _ => by cases h
  | _ :: _, _, _ :: _, _, _, h, .cons q r => by
    obtain ⟨fa, fb, e, h1, h2⟩ := OReps.split (Nat.succ.inj h) r
    subst e
    exact ⟨_, fb, (List.append_assoc _ _ _).symm, .cons q h1, h2⟩
/-- an own list gets new items, out of its old ones and of what lies on top of it; some come to the top -/
theorem R.relist {Γ : Ctx} {σ : St} {e : Env} {τ : List (Option V)} {stk : Env} {G H : Hp} {as : List V} {ao : List O} {p : Addr} {os : List O} (r : R K Γ σ e (as.map some ++ some (.ref p) :: τ) (ao.map some ++ some (.l os) :: stk) G H) (hl : as.length = ao.length) :
    ∃ vs, H p = some (.lst vs) ∧ vs.length = os.length ∧ ∀ (ws vs' : List V) (us os' : List O) (L : List (V × O)), ws.length = us.length → vs'.length = os'.length → L.Sublist (as.zip ao ++ vs.zip os) → L.Perm (ws.zip us ++ vs'.zip os') →
      R K Γ σ e (ws.map some ++ some (.ref p) :: τ) (us.map some ++ some (.l os') :: stk) G (upd H p (.lst vs')) := by
  obtain ⟨f1, f2, c, s, n, m⟩ := r.ex
  obtain ⟨fa, fr, e1, ha, hr⟩ := s.split (by simpa using hl)
  subst e1
  cases hr with
  | @cons _ _ fl _ _ fb hlst hs =>
    cases hlst with
    | @l _ vs _ fi hp hg hi =>
      refine ⟨vs, hp, hi.length, fun ws vs' us os' L h1 h2 sl pm => ?_⟩
      have hz : OReps K G H ((as.zip ao ++ vs.zip os).map Prod.fst) ((as.zip ao ++ vs.zip os).map Prod.snd) (fa ++ fi) := by
        rw [List.map_append, List.map_append, zip_fst' hl, zip_snd' hl, zip_fst' hi.length, zip_snd' hi.length]
        exact ha.reps.append hi
      obtain ⟨g1, k1, s1⟩ := hz.subl sl
      obtain ⟨g2, k2, p2⟩ := k1.pairs pm
      rw [List.map_append, List.map_append, zip_fst' h1, zip_snd' h1, zip_fst' h2, zip_snd' h2] at k2
      obtain ⟨gw, gv, eg, kw, kv⟩ := k2.split h1
      subst eg
      have pmA : (f1 ++ (fa ++ ((p :: fi) ++ fb))).Perm (p :: (f1 ++ ((fa ++ fi) ++ fb))) := by
        have a1 : (fa ++ ((p :: fi) ++ fb)).Perm (p :: ((fa ++ fi) ++ fb)) := by
          rw [List.append_assoc]
          exact List.perm_middle
        exact (List.Perm.append_left f1 a1).trans List.perm_middle
      have nA := pmA.nodup_iff.mp n
      obtain ⟨np1, nA2⟩ := List.nodup_cons.mp nA
      have slB : (f1 ++ (g1 ++ fb)).Sublist (f1 ++ ((fa ++ fi) ++ fb)) := List.Sublist.append (.refl _) (List.Sublist.append s1 (.refl _))
      have pmB : (f1 ++ ((gw ++ gv) ++ fb)).Perm (f1 ++ (g1 ++ fb)) := List.Perm.append_left _ (List.Perm.append_right _ p2)
      have pmC : (f1 ++ (gw ++ ((p :: gv) ++ fb))).Perm (p :: (f1 ++ ((gw ++ gv) ++ fb))) := by
        have a1 : (gw ++ ((p :: gv) ++ fb)).Perm (p :: ((gw ++ gv) ++ fb)) := by
          rw [List.append_assoc]
          exact List.perm_middle
        exact (List.Perm.append_left f1 a1).trans List.perm_middle
      have npB : p ∉ f1 ++ ((gw ++ gv) ++ fb) := fun z => np1 (slB.subset (pmB.mem_iff.mp z))
      have kp : ∀ f : List Addr, p ∉ f → Keep G H G (upd H p (.lst vs')) f := fun f hf => ⟨Sub.refl G, fun a h => ⟨upd_ne (fun z => hf (by rw [← z]; exact h)), fun z => z⟩⟩
      have hpw : Γ.H0 p ≠ none → p ∈ Γ.P := fun z => by
        rcases m p (pmA.mem_iff.mpr List.mem_cons_self) with y | y
        · exact y
        · exact absurd y z
      have w : Wd Γ G (upd H p (.lst vs')) := {
        sub := fun a x e => by
          rw [upd_ne (fun z => by rw [z, hg] at e; cases e)]
          exact r.wd.sub a x e
        ext := r.wd.ext
        fr := fun a h nm => by
          have ne : a ≠ p := fun z => by
            rw [z] at h nm
            exact nm (hpw h)
          rw [upd_ne ne]
          exact r.wd.fr a h nm }
      have cw : Cells K G (upd H p (.lst vs')) (ws.map some) (us.map some) gw := (kw.keep (kp _ fun z => npB (List.mem_append_right _ (List.mem_append_left _ (List.mem_append_left _ z))))).cells
      refine ⟨w, r.pin, f1, gw ++ ((p :: gv) ++ fb), c.keep (kp _ fun z => npB (List.mem_append_left _ z)), cw.append (.cons (.l upd_same hg (kv.keep (kp _ fun z => npB (List.mem_append_right _ (List.mem_append_left _ (List.mem_append_right _ z)))))) (hs.keep (kp _ fun z => npB (List.mem_append_right _ (List.mem_append_right _ z))))), pmC.nodup_iff.mpr (List.nodup_cons.mpr ⟨npB, pmB.nodup_iff.mpr (nA2.sublist slB)⟩), fun a h => ?_⟩
      rcases List.mem_cons.mp (pmC.mem_iff.mp h) with rfl | h
      · exact m _ (pmA.mem_iff.mpr List.mem_cons_self)
      · exact m a (pmA.mem_iff.mpr (List.mem_cons_of_mem _ (slB.subset (pmB.mem_iff.mp h))))
/-! ### methods -/
/-- x.m(..): from the list's items and the arguments: what comes out, the new items -/
def mMut (i : Nat) (f : List O → List O → Option (O × List O)) (ks : List AK) : ME := fun env => match env[i]? with
  | some (some (.l _)) => match evalA ks env with
    | .ok cs e => match allS cs, e[i]? with
      | some as, some (some (.l os)) => match f os as with
        | some (o, os') => .ok o (e.set i (some (.l os')))
        | none => .fail
      | _, _ => .fail
    | .exc x e => .exc x e
    | .fail => .fail
  | _ => .fail
def MutS (K : PySem.W.Frag) (r : V → List V → Hp → VK → Prop) (f : List O → List O → Option (O × List O)) : Prop := ∀ (Γ : Ctx) (σ : St) (e : Env) (τ : List (Option V)) (stk : Env) (G H : Hp) (p : Addr) (as : List V) (ao os : List O) (o : O) (os' : List O) (Q : VK),
  R K Γ σ e (as.map some ++ some (.ref p) :: τ) (ao.map some ++ some (.l os) :: stk) G H → as.length = ao.length → f os ao = some (o, os') → (∀ v G' H', R K Γ σ e (some v :: some (.ref p) :: τ) (some o :: some (.l os') :: stk) G' H' → Q v H') → r (.ref p) as H Q
theorem esnd_mut {i : Nat} {t : TA} {ks : List AK} {r : V → List V → Hp → VK → Prop} {f : List O → List O → Option (O × List O)} (h1 : ASnd K mg W np t ks) (h2 : MutS K r f) : ESnd K mg W np (tBM K "list" r (tVar i) t) (mMut i f ks) := by
  intro Γ σ env τ stk G H Q hp rr h
  unfold mMut at h
  split at h
  · rename_i l0 he
    obtain ⟨v, g, ev, q⟩ := rr.slot he
    cases q with
    | @l p vs0 _ fp hp0 hg0 hr0 =>
      refine ⟨.ref p, ev, .inl ⟨rfl, vs0, .inl (.inl hp0)⟩, h1 Γ σ env τ stk G H _ hp rr ?_⟩
      cases e1 : evalA ks env with
      | ok cs e =>
        simp only [e1] at h
        intro vs G1 H1 hl r1 n1
        split at h
        · rename_i as os e2 e3
          have ec := allS_of e2
          subst ec
          have hl' : vs.length = as.length := by
            rw [← hl, List.length_map]
          cases e4 : f os as with
          | none => simp only [e4] at h; exact False.elim h
          | some z =>
            obtain ⟨o, os'⟩ := z
            simp only [e4] at h
            obtain ⟨v1, ev1, r2⟩ := r1.move e3
            rw [ev] at ev1
            cases ev1
            have r3 := R.unrot (vs := vs.map some) (os := as.map some) r2 (by simp [hl'])
            refine h2 Γ σ _ τ stk G1 H1 p vs as os o os' Q r3 hl' e4 fun v G' H' r4 => h v G' H' ?_
            have r5 : R K Γ σ (e.set i none) (some (.ref p) :: ([some v] ++ τ)) (some (.l os') :: ([some o] ++ stk)) G' H' := R.rot (vs := [some v]) (os := [some o]) r4 rfl
            have r6 := r5.back ev
            rw [List.set_set] at r6
            exact r6
        · exact False.elim h
      | exc x e =>
        simp only [e1] at h
        exact h
      | fail =>
        simp only [e1] at h
        exact h
  · exact False.elim h
theorem de_mut {i : Nat} {x name : Str} {id : String} {r : V → List V → Hp → VK → Prop} {f : List O → List O → Option (O × List O)} {e : Expr} {es : List Expr} {ks : List AK} {q apos cpos : Pos} (pa : PlainAttrs "list") (slot : Slot "list" name id) (hty : typeOf (.builtin id) = pure (.type "method_descriptor")) (hm : MtR X id r) (h2 : MutS X.K r f) (ha : DA X W np (e :: es) ks)
    (hN : X.N[i]? = some x := by rfl) (hv : Vis X.env.scope x := by first | exact Or.inl rfl | exact Or.inr (Or.inl rfl) | exact Or.inr (Or.inr rfl)) (hd : (x == ("__debug__" : Str)) = false := by decide) (hcd : (x == ("__classdict__" : Str)) = false := by decide)
    (hbase : attributeBase (.Name x q) name X.env (eval (.Name x q) X.env) = eval (.Name x q) X.env := by rfl)
    (hfew : ((backTo cpos (starEach (e :: es) X.env)).all (fun x => !x.1) && (backToKw cpos (keywordEach [] X.env)).all (fun x => x.1.isSome)
      && decide ((e :: es).length + ([] : List Keyword).length + (if ([] : List Keyword).isEmpty then 0 else 1) < 30)) = true := by rfl)
    (hline : (apos.endLine == cpos.line) = true := by rfl) (hs : starEach (e :: es) X.env = (false, eval e X.env) :: starEach es X.env := by rfl) (hplain : (backTo cpos (starEach es X.env)).any (·.1) = false := by rfl) :
    DE X W np (.Call (.Attribute (.Name x q) name apos) (e :: es) [] cpos) (mMut i f ks) := by
  obtain ⟨t, p, s⟩ := ha.ex
  exact ⟨_, pe_bm pa slot hty hm (pe_var (i := i) hN hv hd hcd) p hbase (by exact hfew) hline (by exact hs) (by exact hplain), esnd_mut s h2⟩
theorem de_mut0 {i : Nat} {x name : Str} {id : String} {r : V → List V → Hp → VK → Prop} {f : List O → List O → Option (O × List O)} {q apos cpos : Pos} (pa : PlainAttrs "list") (slot : Slot "list" name id) (hty : typeOf (.builtin id) = pure (.type "method_descriptor")) (hm : MtR X id r) (h2 : MutS X.K r f)
    (hN : X.N[i]? = some x := by rfl) (hv : Vis X.env.scope x := by first | exact Or.inl rfl | exact Or.inr (Or.inl rfl) | exact Or.inr (Or.inr rfl)) (hd : (x == ("__debug__" : Str)) = false := by decide) (hcd : (x == ("__classdict__" : Str)) = false := by decide)
    (hbase : attributeBase (.Name x q) name X.env (eval (.Name x q) X.env) = eval (.Name x q) X.env := by rfl) (hline : (apos.endLine == cpos.line) = true := by rfl) :
    DE X W np (.Call (.Attribute (.Name x q) name apos) [] [] cpos) (mMut i f []) :=
  ⟨_, pe_bm0 pa slot hty hm (pe_var (i := i) hN hv hd hcd) hbase hline, esnd_mut asnd_nil h2⟩
def fApp (os as : List O) : Option (O × List O) := match as with
  | [a] => if os.length < 16000000 then some (.d .non, os ++ [a]) else none
  | _ => none
theorem s_app : MutS K rAppend fApp := by
  intro Γ σ e τ stk G H p as ao os o os' Q r hl hf k
  unfold fApp at hf
  split at hf
  · rename_i a
    split at hf
    · rename_i hlen
      cases hf
      match as, hl with
      | [v], _ =>
        obtain ⟨vs, hp, hlv, rr⟩ := R.relist (as := [v]) (ao := [a]) r rfl
        refine ⟨p, vs, v, rfl, rfl, hp, by rw [sizeLine_eq]; omega, ?_⟩
        have r2 := rr [] (vs ++ [v]) [] (os ++ [a]) _ rfl (by simp [hlv]) (.refl _) (by
          rw [List.zip_append hlv]
          exact List.perm_append_comm)
        exact k _ _ _ (R.pushD (x := .non) r2 .non)
    · cases hf
  · cases hf
def fPop (os as : List O) : Option (O × List O) := match as with
  | [] => match os.getLast? with
    | some o => some (o, os.dropLast)
    | none => none
  | _ => none
theorem s_pop : MutS K rPop fPop := by
  intro Γ σ e τ stk G H p as ao os o os' Q r hl hf k
  unfold fPop at hf
  split at hf
  · match as, hl with
    | [], _ =>
      obtain ⟨vs, hp, hlv, rr⟩ := R.relist (as := []) (ao := []) r rfl
      cases hg : os.getLast? with
      | none => rw [hg] at hf; cases hf
      | some z =>
        rw [hg] at hf
        cases hf
        have neo : os ≠ [] := fun z => by
          rw [z] at hg
          cases hg
        have ho : os = os.dropLast ++ [o] := by
          have h1 := List.getLast?_eq_some_getLast neo
          rw [hg] at h1
          have h2 := Option.some.inj h1
          rw [h2]
          exact (List.dropLast_concat_getLast neo).symm
        have ne : vs ≠ [] := fun z => by
          rw [z] at hlv
          have : os = [] := List.eq_nil_of_length_eq_zero hlv.symm
          rw [this] at hg
          cases hg
        have hv : vs = vs.dropLast ++ [vs.getLast ne] := (List.dropLast_concat_getLast ne).symm
        have hd : vs.dropLast.length = os.dropLast.length := by simp [hlv]
        refine ⟨p, vs, vs.getLast ne, rfl, rfl, hp, by rw [List.getLast_eq_getElem]; simp, ?_⟩
        refine k _ _ _ (rr [vs.getLast ne] vs.dropLast [o] os.dropLast _ rfl hd (.refl _) ?_)
        show (vs.zip os).Perm _
        conv => lhs; rw [hv, ho]
        rw [List.zip_append hd]
        exact List.perm_append_comm
  · cases hf
theorem perm_erase {α : Type} : ∀ {l : List α} {k : Nat} {x : α}, l[k]? = some x → l.Perm (x :: l.eraseIdx k)
  | [], _, _, h => by simp at h
  | y :: l, 0, x, h => by
    cases h
    exact .refl _
  | y :: l, k + 1, x, h => by
    have := perm_erase (l := l) (k := k) (x := x) (by simpa using h)
    rw [List.eraseIdx_cons_succ]
    exact (this.cons y).trans (.swap _ _ _)
theorem zip_erase {α β : Type} : ∀ {a : List α} {b : List β} {k : Nat}, a.length = b.length → (a.zip b).eraseIdx k = (a.eraseIdx k).zip (b.eraseIdx k)
  | [], [], _, _ => by simp
  | [], _ :: _, _, h => by cases h
  | _ :: _, [], _, h => by cases h
  | x :: a, y :: b, 0, h => by simp
  | x :: a, y :: b, k + 1, h => by simp [zip_erase (Nat.succ.inj h)]
def fPopAt (os as : List O) : Option (O × List O) := match as with
  | [.d (.int i)] => match seqIndex? i os.length with
    | some k => match os[k]? with
      | some o => if -(2 ^ 63) ≤ i ∧ i < 2 ^ 63 then some (o, os.eraseIdx k) else none
      | none => none
    | none => none
  | _ => none
theorem len_eraseEq {α β : Type} : ∀ {a : List α} {b : List β} {k : Nat}, a.length = b.length → (a.eraseIdx k).length = (b.eraseIdx k).length := by
  intro a b k h
  rw [List.length_eraseIdx, List.length_eraseIdx, h]
theorem s_popAt : MutS K rPopAt fPopAt := by
  intro Γ σ e τ stk G H p as ao os o os' Q r hl hf k
  unfold fPopAt at hf
  split at hf
  · rename_i i
    match as, hl with
    | [v], _ =>
      have hv : v = .int i := by
        have := r.topD
        cases this
        rfl
      subst hv
      have r1 : R K Γ σ e (some (.ref p) :: τ) (some (.l os) :: stk) G H := r.pop1
      obtain ⟨vs, hp, hlv, rr⟩ := R.relist (as := []) (ao := []) r1 rfl
      cases e1 : seqIndex? i os.length with
      | none => rw [e1] at hf; cases hf
      | some j =>
        cases e2 : os[j]? with
        | none => simp only [e1, e2] at hf; cases hf
        | some z =>
          simp only [e1, e2] at hf
          split at hf
          · rename_i hb
            cases hf
            have hj : j < vs.length := by
              rw [hlv]
              exact (List.getElem?_eq_some_iff.mp e2).1
            refine ⟨p, vs, i, j, vs[j], rfl, rfl, hp, hb.1, hb.2, by rw [hlv]; exact e1, by simp [hj], ?_⟩
            refine k _ _ _ (rr [vs[j]] (vs.eraseIdx j) [o] (os.eraseIdx j) _ rfl (len_eraseEq hlv) (.refl _) ?_)
            show (vs.zip os).Perm ((vs[j], o) :: (vs.eraseIdx j).zip (os.eraseIdx j))
            rw [← zip_erase hlv]
            refine perm_erase ?_
            rw [List.getElem?_zip_eq_some]
            exact ⟨by simp [hj], e2⟩
          · cases hf
  · cases hf
end
end Dn
end
section
set_option Elab.async false
set_option linter.all false
set_option maxRecDepth 100000
set_option maxHeartbeats 4000000
/-! Dn13: stores by place, slices, list(range(..)), methods that only look. -/
namespace Dn
open PySem PySem.Spec L2
open PyProof.Rows hiding St
/-- x[k] = v, x a list of its own -/
def mPut (i : Nat) (m : ME) (k : AK) : MS := fun env => onE (m env) fun o e1 => match e1[i]? with
  | some (some (.l _)) => match evalK k e1 with
    | .ok c e2 => match resA [k] [c] e2, e2[i]? with
      | some [a], some (some (.l os)) => match asI a with
        | some j => match ixN os.length j with
          | some n => .nx (e2.set i (some (.l (os.set n o))))
          | none => .fail
        | none => .fail
      | _, _ => .fail
    | .exc x e => .exc x e
    | .fail => .fail
  | _ => .fail
def cutD (xs : List D) (lo hi : Option Int) : List D := (xs.drop (HT.sIx xs.length 0 lo)).take (HT.sIx xs.length xs.length hi - HT.sIx xs.length 0 lo)
/-- a part of a slice -/
def mPart (m : Option ME) : Env → Rs (Option Int) := fun e => match m with
  | none => .ok none e
  | some m => match m e with
    | .ok o e1 => match asI o with
      | some i => .ok (some i) e1
      | none => .fail
    | .exc x e => .exc x e
    | .fail => .fail
def sliceO (o : O) (lo hi : Option Int) : Option O := match tupF o with
  | some xs => some (.d (.tup (cutD xs lo hi)))
  | none => (lstF o).map fun xs => .l ((cutD xs lo hi).map O.d)
def mSlice (k : AK) (lo hi : Option ME) : ME := fun env => match evalA [k] env with
  | .ok cs e => match mPart lo e with
    | .ok l e1 => match mPart hi e1 with
      | .ok h e2 => match resA [k] cs e2 with
        | some [o] => match sliceO o l h with
          | some z => .ok z e2
          | none => .fail
        | _ => .fail
      | .exc x e => .exc x e
      | .fail => .fail
    | .exc x e => .exc x e
    | .fail => .fail
  | .exc x e => .exc x e
  | .fail => .fail
section
variable {X : Cx} {W : WX} {np : Asm} {K : PySem.W.Frag} {mg : Str → Option Value}
structure DP (X : Cx) (W : WX) (np : Asm) (e : Option Expr) (m : Option ME) : Prop where
  ex : ∃ t, PO X e t ∧ ∀ (Γ : Ctx) (σ : St) (env : Env) (τ : List (Option V)) (stk : Env) (G H : Hp) (Q : Option Int → Hp → Prop), PinOk Γ np → R X.K Γ σ env τ stk G H → RsQ X.K X.mg Γ W σ τ stk (fun b e => ∀ G' H', R X.K Γ σ e τ stk G' H' → Q b H') (mPart m env) → t σ H Q
theorem dp_none : DP X W np none none := ⟨_, po_none, fun Γ σ env τ stk G H Q hp r h => h G H r⟩
theorem dp_some {e : Expr} {m : ME} (h : DE X W np e m) : DP X W np (some e) (some m) := by
  obtain ⟨t, p, s⟩ := h.ex
  refine ⟨_, po_some p, fun Γ σ env τ stk G H Q hp r h => s Γ σ env τ stk G H _ hp r ?_⟩
  unfold mPart at h
  cases q : m env with
  | ok o e1 =>
    simp only [q] at h
    intro v G' H' r'
    cases e2 : asI o with
    | none => simp only [e2] at h; exact False.elim h
    | some i =>
      simp only [e2] at h
      obtain rfl := orep_int r'.top e2
      exact ⟨i, rfl, h G' H' r'.pop⟩
  | exc x e1 =>
    simp only [q] at h
    exact h
  | fail =>
    simp only [q] at h
    exact h
theorem Reps.drop {G : Hp} : ∀ {vs : List V} {xs : List D} (n : Nat), Reps K G vs xs → Reps K G (vs.drop n) (xs.drop n)
  | _, _, 0, r => r
  | _, _, _ + 1, .nil => .nil
  | _, _, n + 1, .cons _ r => r.drop n
theorem Reps.take {G : Hp} : ∀ {vs : List V} {xs : List D} (n : Nat), Reps K G vs xs → Reps K G (vs.take n) (xs.take n)
  | _, _, 0, _ => .nil
  | _, _, _ + 1, .nil => .nil
  | _, _, n + 1, .cons h r => .cons h (r.take n)
theorem Reps.cut {G : Hp} {vs : List V} {xs : List D} {lo hi : Option Int} (r : Reps K G vs xs) : Reps K G (cutV vs lo hi) (cutD xs lo hi) := by
  unfold cutV cutD
  rw [r.length]
  exact (r.drop _).take _
theorem cutD_whole {xs : List D} {lo hi : Option Int} (h : HT.sIx xs.length 0 lo = 0 ∧ HT.sIx xs.length xs.length hi = xs.length) : cutD xs lo hi = xs := by
  unfold cutD
  rw [h.1, h.2]
  simp
def rSlX (K : PySem.W.Frag) : V → Option Int → Option Int → Hp → VK → Prop := fun x lo hi H Q => rSlA K x lo hi H Q ∨ rSlL K x lo hi H Q
theorem sl_x : SlR X (rSlX X.K) := sl_tupA.or sl_list
theorem de_slice {e : Expr} {k : AK} {lo hi : Option Expr} {ml mh : Option ME} {p2 pos : Pos} (h : DK X W np e k) (hl : DP X W np lo ml) (hh : DP X W np hi mh) : DE X W np (.Subscript e (.Slice lo hi none p2) pos) (mSlice k ml mh) := by
  obtain ⟨t, p, s⟩ := h.ex
  obtain ⟨tl, pl, sl⟩ := hl.ex
  obtain ⟨th, ph, sh⟩ := hh.ex
  refine ⟨_, pe_slice sl_x p pl ph, fun Γ σ env τ stk G H Q hp r h => ?_⟩
  refine (show tCons t tNil σ H (one1 fun x H1 => tl σ H1 fun l H2 => th σ H2 fun u H3 => rSlX X.K x l u H3 Q) from asnd_cons s asnd_nil Γ σ env τ stk G H _ hp r ?_)
  unfold mSlice at h
  cases e1 : evalA [k] env with
  | ok cs e =>
    simp only [e1] at h
    intro vs G1 H1 hlen r1 n1
    have hl1 := areNm_len n1
    match vs, hl1 with
    | [v], _ =>
      refine sl Γ σ e _ _ G1 H1 _ hp r1 ?_
      cases e2 : mPart ml e with
      | ok l e' =>
        simp only [e2] at h
        intro G2 H2 r2
        refine sh Γ σ e' _ _ G2 H2 _ hp r2 ?_
        cases e3 : mPart mh e' with
        | ok u e'' =>
          simp only [e3] at h
          intro G3 H3 r3
          split at h
          · rename_i o eo
            have ha := oall_of (pre := []) (pres := []) rfl r3 hlen n1 eo
            match ha with
            | .cons h1 .nil =>
              cases es : sliceO o l u with
              | none => simp only [es] at h; exact False.elim h
              | some z =>
                simp only [es] at h
                have k : ∀ v' G' H', R X.K Γ σ e'' (some v' :: ([some v] ++ τ)) (some z :: (cs ++ stk)) G' H' → Q v' H' := fun v' G' H' r' => h v' G' H' (R.dropMid (vs := [some v]) (os := cs) (by simp [hlen]) r')
                unfold sliceO at es
                cases et : tupF o with
                | some xs =>
                  simp only [et] at es
                  cases es
                  obtain ⟨a, ws, ev, sq, rp, sg⟩ := tupF_of r3.wd.sub h1 et
                  refine .inl ⟨a, ws, ev, sq, fun hw => ?_, fun hw p hpn => ?_⟩
                  · rw [rp.length] at hw
                    refine k _ G3 H3 (r3.pushD ?_)
                    rw [cutD_whole hw]
                    exact .tup sg rp
                  · exact k _ _ _ (R.mkT (τ := [some v] ++ τ) (stk := cs ++ stk) r3 rp.cut hpn)
                | none =>
                  simp only [et] at es
                  cases el : lstF o with
                  | none => rw [el] at es; cases es
                  | some xs =>
                    rw [el] at es
                    cases es
                    obtain ⟨a, ws, ev, sq, rp⟩ := lstF_of r3.wd.sub h1 el
                    exact .inr ⟨a, ws, ev, sq, fun p hpn => k _ _ _ (R.mkL (τ := [some v] ++ τ) (stk := cs ++ stk) r3 rp.cut hpn)⟩
          · exact False.elim h
        | exc x e'' =>
          simp only [e3] at h
          exact fun c d G' H' r q => h c d G' H' (R.popN (vs := [some v]) (os := cs) (by simp [hlen]) r) q
        | fail =>
          simp only [e3] at h
          exact h
      | exc x e' =>
        simp only [e2] at h
        exact fun c d G' H' r q => h c d G' H' (R.popN (vs := [some v]) (os := cs) (by simp [hlen]) r) q
      | fail =>
        simp only [e2] at h
        exact h
  | exc x e =>
    simp only [e1] at h
    exact h
  | fail =>
    simp only [e1] at h
    exact h
/-! ### x[k] = v -/
theorem Reps.setX {α β : Type} {a : List α} {b : List β} (h : a.length = b.length) (n : Nat) (x : α) (y : β) : (a.set n x).length = (b.set n y).length := by
  rw [List.length_set, List.length_set, h]
theorem perm_set {α : Type} : ∀ {l : List α} {k : Nat} {y : α}, k < l.length → (l.set k y).Perm (y :: l.eraseIdx k)
  | [], _, _, h => by cases h
  | x :: l, 0, y, _ => .refl _
  | x :: l, k + 1, y, h => by
    have := perm_set (l := l) (k := k) (y := y) (Nat.lt_of_succ_lt_succ h)
    rw [List.set_cons_succ, List.eraseIdx_cons_succ]
    exact (this.cons x).trans (.swap _ _ _)
theorem zip_set {α β : Type} : ∀ {a : List α} {b : List β} {k : Nat} {x : α} {y : β}, a.length = b.length → (a.set k x).zip (b.set k y) = (a.zip b).set k (x, y)
  | [], [], _, _, _, _ => by simp
  | [], _ :: _, _, _, _, h => by cases h
  | _ :: _, [], _, _, _, h => by cases h
  | x :: a, y :: b, 0, _, _, h => by simp
  | x :: a, y :: b, k + 1, _, _, h => by simp [zip_set (Nat.succ.inj h)]
theorem ixN_lt {n k : Nat} {i : Int} (h : ixN n i = some k) : k < n := (ixN_seq h).2.1
theorem ssnd_put {i : Nat} {t ti : TE} {m : ME} {k : AK} (h1 : ESnd K mg W np t m) (h2 : KSnd K mg W np ti k) : SSnd K mg W np (tAsg t (gSub (tVar i) ti rSetL)) (mPut i m k) := by
  intro Γ σ env G H D hp r h
  refine h1 Γ σ env [] [] G H _ hp r ((onE_q h).imp fun o e1 q v G1 H1 r1 => ?_)
  split at q
  · rename_i l0 he
    obtain ⟨w, _, ew, _⟩ := r1.slot he
    refine ⟨w, ew, h2 Γ σ e1 _ _ G1 H1 _ hp r1 ?_⟩
    cases ek : evalK k e1 with
    | ok c e2 =>
      simp only [ek] at q
      intro y G2 H2 r2 n2
      split at q
      · rename_i a os e3 e4
        have ha := oall_of (ks := [k]) (vs := [y]) (cs := [c]) (pre := []) (pres := []) (τ := [some v]) (stk := [some o]) rfl r2 rfl ⟨y, [], rfl, n2, rfl⟩ e3
        match ha with
        | .cons hy .nil =>
          cases ea : asI a with
          | none => simp only [ea] at q; exact False.elim q
          | some j =>
            simp only [ea] at q
            obtain rfl := orep_int hy ea
            cases en : ixN os.length j with
            | none => simp only [en] at q; exact False.elim q
            | some n =>
              simp only [en] at q
              have r3 : R K Γ σ e2 [some v] [some o] G2 H2 := r2.pop1
              obtain ⟨w', ew', r4⟩ := r3.move e4
              rw [ew] at ew'
              cases ew'
              have top := r4.top
              obtain ⟨f0, top⟩ := top
              cases top with
              | @l p vs0 _ fp hp0 hg0 hr0 =>
                have r5 : R K Γ σ (e2.set i none) ([v].map some ++ some (.ref p) :: []) ([o].map some ++ some (.l os) :: []) G2 H2 := R.rot (vs := [some (.ref p)]) (os := [some (.l os)]) (τ := []) (stk := []) r4 rfl
                obtain ⟨vs, hpv, hlv, rr⟩ := R.relist (as := [v]) (ao := [o]) r5 rfl
                have hn : n < vs.length := by
                  rw [hlv]
                  exact ixN_lt en
                have r6 := rr [] (vs.set n v) [] (os.set n o) ((v, o) :: (vs.zip os).eraseIdx n) rfl (Reps.setX hlv n v o) (List.Sublist.cons_cons _ (List.eraseIdx_sublist _ _)) (by
                  show ((v, o) :: (vs.zip os).eraseIdx n).Perm ((vs.set n v).zip (os.set n o))
                  rw [zip_set hlv]
                  exact (perm_set (by rw [List.length_zip, ← hlv, Nat.min_self]; exact hn)).symm)
                have r7 := R.back (τ := []) (stk := []) r6 ew
                rw [List.set_set] at r7
                refine ⟨p, vs, j, n, rfl, rfl, hpv, by rw [hlv]; exact en, q σ _ _ r7⟩
      · exact False.elim q
    | exc x e2 =>
      simp only [ek] at q
      exact fun c d G' H' r q' => q σ c d G' H' r.pop1 q'
    | fail =>
      simp only [ek] at q
      exact q
  · exact False.elim q
theorem ds_put {i : Nat} {x : Str} {e ix : Expr} {m : ME} {k : AK} {p pos apos : Pos} (h : DE X W np e m) (h2 : DK X W np ix k) (hN : X.N[i]? = some x := by rfl) (hv : Vis X.env.scope x := by first | exact Or.inl rfl | exact Or.inr (Or.inl rfl) | exact Or.inr (Or.inr rfl)) (hd : (x == ("__debug__" : Str)) = false := by decide) (hcd : (x == ("__classdict__" : Str)) = false := by decide)
    (ha : ∀ v, assign (.Subscript (.Name x p) ix apos) X.env v = (do
      let ov ← holding [v] (eval (.Name x p) X.env)
      let iv ← holding [v, ov] (eval ix X.env)
      standAt apos
      holding [v, ov, iv] (setItem ov iv v)
      release [v, ov, iv] []) := by intro _; rfl)
    (hs : swapsWithSole [.Subscript (.Name x p) ix apos] e pos.line X.env = pure false := by rfl) (hw : swappedStores [.Subscript (.Name x p) ix apos] e X.env = pure none := by rfl) (h1 : (assignEach [.Subscript (.Name x p) ix apos] X.env).map (·.2) = [assign (.Subscript (.Name x p) ix apos) X.env] := by rfl) :
    DS X W np (.Assign [.Subscript (.Name x p) ix apos] e pos) (mPut i m k) := by
  obtain ⟨t, pe, s⟩ := h.ex
  obtain ⟨ti, pi, si⟩ := h2.ex
  exact ⟨_, ps_asg pe (pg_sub (pe_var (i := i) hN hv hd hcd) pi set_list ha) hs hw h1, ssnd_put s si⟩
end
end Dn
end
section
set_option Elab.async false
set_option linter.all false
set_option maxRecDepth 100000
set_option maxHeartbeats 4000000
/-! Dn14: operators upon several kinds, a walk over a list or a tuple, short words for the bodies. -/
namespace Dn
open PySem PySem.Spec L2
open PyProof.Rows hiding St
section
variable {X : Cx} {W : WX} {np : Asm} {K : PySem.W.Frag} {mg : Str → Option Value}
theorem OAll.len {G H : Hp} : ∀ {vs : List V} {os : List O}, OAll K G H vs os → vs.length = os.length
  | _, _, .nil => rfl
  | _, _, .cons _ r => congrArg (· + 1) r.len
def orR (r r' : R2) : R2 := fun x y H Q => r x y H Q ∨ r' x y H Q
theorem opr_or {f : Value → Value → Sem Value} {r r' : R2} (h : OpR X f r) (h' : OpR X f r') : OpR X f (orR r r') := by
  intro pins s σ H x y v u Q I rx ry hq
  rcases hq with hq | hq
  · exact h pins s σ H x y v u Q I rx ry hq
  · exact h' pins s σ H x y v u Q I rx ry hq
def orO (f g : List O → Option O) : List O → Option O := fun os => match f os with
  | some o => some o
  | none => g os
theorem ops_or {r r' : R2} {f g : List O → Option O} (h : OpS K (r2 r) f) (h' : OpS K (r2 r') g) (hg : ∀ os o, g os = some o → os.length = 2) (hf : ∀ os o, f os = some o → os.length = 2) : OpS K (r2 (orR r r')) (orO f g) := by
  intro Γ σ e τ stk G H vs os o Q rr ha ho k
  unfold orO at ho
  have two : ∀ (n : os.length = 2), (∃ x y, vs = [x, y]) := fun n => by
    have hl := ha.len
    rw [n] at hl
    match vs, hl with
    | [x, y], _ => exact ⟨x, y, rfl⟩
  cases e1 : f os with
  | some z =>
    simp only [e1] at ho
    cases ho
    obtain ⟨x, y, rfl⟩ := two (hf _ _ e1)
    exact .inl (h Γ σ e τ stk G H [x, y] os _ Q rr ha e1 k)
  | none =>
    simp only [e1] at ho
    obtain ⟨x, y, rfl⟩ := two (hg _ _ ho)
    exact .inr (h' Γ σ e τ stk G H [x, y] os _ Q rr ha ho k)
theorem two_fI2 {C : Int → Int → Bool} {g : Int → Int → D} : ∀ (os : List O) (o : O), fI2 C g os = some o → os.length = 2
  | [], _, h => by cases h
  | [_], _, h => by cases h
  | [_, _], _, _ => rfl
  | _ :: _ :: _ :: _, _, h => by cases h
theorem two_cat : ∀ (os : List O) (o : O), oCat os = some o → os.length = 2
  | [], _, h => by cases h
  | [_], _, h => by cases h
  | [_, _], _, _ => rfl
  | _ :: _ :: _ :: _, _, h => by cases h
theorem two_catL : ∀ (os : List O) (o : O), oCatL os = some o → os.length = 2
  | [], _, h => by cases h
  | [_], _, h => by cases h
  | [_, _], _, _ => rfl
  | _ :: _ :: _ :: _, _, h => by cases h
theorem two_or {f g : List O → Option O} (hf : ∀ os o, f os = some o → os.length = 2) (hg : ∀ os o, g os = some o → os.length = 2) : ∀ os o, orO f g os = some o → os.length = 2 := fun os o h => by
  unfold orO at h
  cases e1 : f os with
  | some z => exact hf _ _ e1
  | none =>
    simp only [e1] at h
    exact hg _ _ h
/-- + of ints, of tuples, of lists -/
def oPlus : List O → Option O := orO oAdd (orO oCat oCatL)
abbrev rPlus (K : PySem.W.Frag) : R2 := orR (rI0 fun i j => .int (i + j)) (orR (rCatA K) rCat)
theorem op_plus : OpR X (binaryOp .Add) (rPlus X.K) := opr_or op_add (opr_or op_catA op_cat)
theorem s_plus : OpS K (r2 (rPlus K)) oPlus := ops_or s_add (ops_or s_catT s_catL two_catL two_cat) (two_or two_cat two_catL) two_fI2
/-! a list or a tuple is walked -/
def itS : D → Option (List D)
  | .tup xs => some xs
  | .lst xs => some xs
  | .scr xs => some xs
  | _ => none
theorem pi_or {tg it : Expr} {w w' : TI} (h : PI X tg it w) (h' : PI X tg it w') : PI X tg it (fun σ H R => w σ H R ∨ w' σ H R) := ⟨fun pins s σ H R I hq => by
  rcases hq with hq | hq
  · exact h.run pins s σ H R I hq
  · exact h'.run pins s σ H R I hq⟩
theorem di_seq {tg e : Expr} {m : ME} (h : DE X W np e m) : DI X W np tg e (mIt itS m) := by
  obtain ⟨tl, pl, sl⟩ := (di_list (tg := tg) h).ex
  obtain ⟨tt, pt, st⟩ := (di_tup (tg := tg) h).ex
  refine ⟨_, pi_or pl pt, fun Γ σ env τ stk G H Q hp r h => ?_⟩
  unfold mIt at h
  cases q : m env with
  | ok o e =>
    simp only [q] at h
    cases hd : frz o with
    | tup xs =>
      rw [hd] at h
      refine .inr (st Γ σ env τ stk G H Q hp r ?_)
      unfold mIt
      simp only [q, hd]
      exact h
    | lst xs =>
      rw [hd] at h
      refine .inl (sl Γ σ env τ stk G H Q hp r ?_)
      unfold mIt
      simp only [q, hd]
      exact h
    | scr xs =>
      rw [hd] at h
      refine .inl (sl Γ σ env τ stk G H Q hp r ?_)
      unfold mIt
      simp only [q, hd]
      exact h
    | _ =>
      rw [hd] at h
      exact False.elim h
  | exc x e =>
    simp only [q] at h
    refine .inl (sl Γ σ env τ stk G H Q hp r ?_)
    unfold mIt
    simp only [q]
    exact h
  | fail =>
    simp only [q] at h
    exact False.elim h
/-! ### methods of lists that only look -/
/-- the value is of that builtin type and has no dict of its own; a frozen tuple too -/
def tyW (K : PySem.W.Frag) (T : String) (x : V) (H : Hp) : Prop := tyV K T x H ∨ (T = "tuple" ∧ ∃ (p : Addr) (ob : Obj) (xs : List V), x = .ref p ∧ H p = some (.frz ob (.tup xs)) ∧ ob.dict = none)
theorem tyW_is {pins : List (Addr × Obj)} {σ : L2.St} {H : Hp} {s : Shared} {T : String} {x : V} {v : Value} (I : Inv X pins σ H s) (r : RelV x v) (ty : tyW X.K T x H) :
    s.TypeIs v T ∧ ∀ a, v = .ref a → ∃ ob, s.heap.get? a = some ob ∧ ob.dict = none := by
  rcases ty with ty | ⟨rfl, p, ob, xs, rfl, hp, hd⟩
  · exact tyV_is I r ty
  · cases r
    obtain ⟨e1, _, _, _, o2, e2, hc, _⟩ := (show ObjOk X.prog X.w H s.heap p (.frz ob (.tup xs)) from I.hok p _ hp)
    rw [e1] at e2
    cases e2
    refine ⟨⟨_, e1, hc⟩, fun a e => ?_⟩
    cases e
    exact ⟨_, e1, hd⟩
def tBW (K : PySem.W.Frag) (T : String) (r : V → List V → Hp → VK → Prop) (to : TE) (t : TA) : TE := fun σ H Q => to σ H fun x H1 => tyW K T x H1 ∧ t σ H1 fun xs H2 => r x xs H2 Q
theorem pe_bmW {o e : Expr} {es : List Expr} {to : TE} {t : TA} {name : Str} {apos cpos : Pos} {T id : String} {r : V → List V → Hp → VK → Prop} (pa : PlainAttrs T) (slot : Slot T name id) (hty : typeOf (.builtin id) = pure (.type "method_descriptor")) (hm : MtR X id r) (ho : PE X o to) (ha : PA X (e :: es) t)
    (hbase : attributeBase o name X.env (eval o X.env) = eval o X.env)
    (hfew : ((backTo cpos (starEach (e :: es) X.env)).all (fun x => !x.1) && (backToKw cpos (keywordEach [] X.env)).all (fun x => x.1.isSome)
      && decide ((e :: es).length + ([] : List Keyword).length + (if ([] : List Keyword).isEmpty then 0 else 1) < 30)) = true)
    (hline : (apos.endLine == cpos.line) = true) (hs : starEach (e :: es) X.env = (false, eval e X.env) :: starEach es X.env) (hplain : (backTo cpos (starEach es X.env)).any (·.1) = false) :
    PE X (.Call (.Attribute o name apos) (e :: es) [] cpos) (tBW X.K T r to t) := by
  refine ⟨fun pins s σ H Q I h => ?_⟩
  refine wpAny_Call_method_late hbase hfew hline rfl (thn (ho.run pins s σ H _ I h) fun v s1 ⟨x, H1, I1, r1, ty, q1⟩ => ?_)
  obtain ⟨h1, h2⟩ := tyW_is I1 r1 ty
  refine ⟨T, id, pa, slot, hty, h1, h2, ?_⟩
  have hA := ha.run cpos pins s1 σ H1 _ I1 q1
  rw [hs] at hA ⊢
  refine Calls.callWith_builtin (by show (false || (backTo cpos (starEach es X.env)).any (·.1)) = false; rw [hplain] <;> rfl) (Calls.evalArgs_plain ?_)
  exact thn hA fun us s2 ⟨vs, H2, I2, r2, q2⟩ => hm pins s2 σ H2 x vs v us Q I2 r1 r2 q2
def mLookG (g : O → Option (List D)) (f : List O → Option O) (k : AK) (ks : List AK) : ME := fun env => match evalK k env with
  | .ok c e => match (resK k c e).bind g with
    | some _ => match evalA ks e with
      | .ok cs e2 => match resA (k :: ks) (c :: cs) e2 with
        | some os => match f os with
          | some z => .ok z e2
          | none => .fail
        | none => .fail
      | .exc x e => .exc x e
      | .fail => .fail
    | none => .fail
  | .exc x e => .exc x e
  | .fail => .fail
abbrev mLook := mLookG lstF
/-- a tuple of which it is known that it has no dict -/
def tupN : O → Option (List D)
  | .t xs => some xs
  | _ => none
abbrev mLookT := mLookG tupN
def LookTy (K : PySem.W.Frag) (T : String) (g : O → Option (List D)) : Prop := ∀ (G H : Hp) (v : V) (o : O) (xs : List D), Sub G H → (∃ f, ORep K G H v o f) → g o = some xs → tyW K T v H
theorem lk_list : LookTy K "list" lstF := fun G H v o xs e h hx => by
  obtain ⟨a, vs, ev, sq, _⟩ := lstF_of e h hx
  subst ev
  exact .inl (.inl ⟨rfl, _, sq⟩)
theorem lk_tup : LookTy K "tuple" tupN := fun G H v o xs e h hx => by
  obtain ⟨f, h⟩ := h
  cases h with
  | d => cases hx
  | l => cases hx
  | t h g r => exact .inr ⟨rfl, _, _, _, rfl, e _ _ h, g⟩
def LookS (K : PySem.W.Frag) (r : V → List V → Hp → VK → Prop) (f : List O → Option O) : Prop := ∀ (Γ : Ctx) (σ : St) (e : Env) (τ : List (Option V)) (stk : Env) (G H : Hp) (v : V) (o : O) (vs : List V) (os : List O) (z : O) (Q : VK),
  R K Γ σ e τ stk G H → (∃ g, ORep K G H v o g) → OAll K G H vs os → f (o :: os) = some z → (∀ v G' H', R K Γ σ e (some v :: τ) (some z :: stk) G' H' → Q v H') → r v vs H Q
theorem esnd_look {T : String} {g : O → Option (List D)} (lt : LookTy K T g) {to : TE} {t : TA} {k : AK} {ks : List AK} {r : V → List V → Hp → VK → Prop} {f : List O → Option O} (h0 : KSnd K mg W np to k) (h1 : ASnd K mg W np t ks) (h2 : LookS K r f) : ESnd K mg W np (tBW K T r to t) (mLookG g f k ks) := by
  intro Γ σ env τ stk G H Q hp rr h
  refine h0 Γ σ env τ stk G H _ hp rr ?_
  unfold mLookG at h
  cases e0 : evalK k env with
  | ok c e =>
    simp only [e0] at h
    intro v G1 H1 r1 n1
    cases el : (resK k c e).bind g with
    | none => simp only [el] at h; exact False.elim h
    | some xs =>
      simp only [el] at h
      cases er : resK k c e with
      | none => rw [er] at el; cases el
      | some o =>
        rw [er] at el
        have ha1 := oall_of (ks := [k]) (vs := [v]) (cs := [c]) (os := [o]) (pre := []) (pres := []) rfl r1 rfl ⟨v, [], rfl, n1, rfl⟩ (by unfold resA resA; simp [er])
        have ho : ∃ g, ORep K G1 H1 v o g := by
          cases ha1 with
          | cons h _ => exact h
        refine ⟨lt G1 H1 v o xs r1.wd.sub ho el, h1 Γ σ e _ _ G1 H1 _ hp r1 ?_⟩
        cases e1 : evalA ks e with
        | ok cs e2 =>
          simp only [e1] at h
          intro vs G2 H2 hl r2 n2
          cases e3 : resA (k :: ks) (c :: cs) e2 with
          | none => simp only [e3] at h; exact False.elim h
          | some os =>
            simp only [e3] at h
            cases e4 : f os with
            | none => simp only [e4] at h; exact False.elim h
            | some z =>
              simp only [e4] at h
              have r3 : R K Γ σ e2 ([] ++ ((v :: vs).map some ++ τ)) ([] ++ ((c :: cs) ++ stk)) G2 H2 := R.rot r2 (by simp [hl])
              have ha := oall_of (ks := k :: ks) (vs := v :: vs) (cs := c :: cs) (pre := []) (pres := []) rfl r3 (by simp [hl]) ⟨v, vs, rfl, n1, n2⟩ e3
              cases ha with
              | cons hv hr => exact h2 Γ σ e2 _ _ G2 H2 v _ vs _ z Q r3 hv hr e4 fun v' G' H' r' => h v' G' H' (R.dropMid (vs := (v :: vs).map some) (os := c :: cs) (by simp [hl]) r')
        | exc x e2 =>
          simp only [e1] at h
          exact fun c' d G' H' r q => h c' d G' H' r.pop1 q
        | fail =>
          simp only [e1] at h
          exact h
  | exc x e =>
    simp only [e0] at h
    exact h
  | fail =>
    simp only [e0] at h
    exact h
theorem de_look {T : String} {g : O → Option (List D)} {o : Expr} {name : Str} {id : String} {r : V → List V → Hp → VK → Prop} {f : List O → Option O} {e : Expr} {es : List Expr} {k : AK} {ks : List AK} {apos cpos : Pos} (pa : PlainAttrs T) (slot : Slot T name id) (hty : typeOf (.builtin id) = pure (.type "method_descriptor")) (hm : MtR X id r) (lt : LookTy X.K T g) (h2 : LookS X.K r f) (ho : DK X W np o k) (ha : DA X W np (e :: es) ks)
    (hbase : attributeBase o name X.env (eval o X.env) = eval o X.env := by rfl)
    (hfew : ((backTo cpos (starEach (e :: es) X.env)).all (fun x => !x.1) && (backToKw cpos (keywordEach [] X.env)).all (fun x => x.1.isSome)
      && decide ((e :: es).length + ([] : List Keyword).length + (if ([] : List Keyword).isEmpty then 0 else 1) < 30)) = true := by rfl)
    (hline : (apos.endLine == cpos.line) = true := by rfl) (hs : starEach (e :: es) X.env = (false, eval e X.env) :: starEach es X.env := by rfl) (hplain : (backTo cpos (starEach es X.env)).any (·.1) = false := by rfl) :
    DE X W np (.Call (.Attribute o name apos) (e :: es) [] cpos) (mLookG g f k ks) := by
  obtain ⟨t, p, s⟩ := ho.ex
  obtain ⟨u, q, z⟩ := ha.ex
  exact ⟨_, pe_bmW pa slot hty hm p q hbase (by exact hfew) hline (by exact hs) (by exact hplain), esnd_look lt s z h2⟩
/-- the first place of an int in a list of ints -/
def findI (x : Int) : List Int → Nat → Option Nat
  | [], _ => none
  | y :: r, n => if y = x then some n else findI x r (n + 1)
theorem findI_spec : ∀ {r : List Int} {n j : Nat} {x : Int}, findI x r n = some j → n ≤ j ∧ r[j - n]? = some x ∧ ∀ m, m < j - n → ∃ z, r[m]? = some z ∧ z ≠ x
  | [], _, _, _, h => by cases h
  | y :: r, n, j, x, h => by
    unfold findI at h
    by_cases e : y = x
    · rw [if_pos e] at h
      cases h
      refine ⟨Nat.le_refl _, by rw [Nat.sub_self, e]; rfl, fun m hm => by omega⟩
    · rw [if_neg e] at h
      obtain ⟨h1, h2, h3⟩ := findI_spec h
      have ej : j - n = (j - (n + 1)) + 1 := by omega
      refine ⟨by omega, by rw [ej, List.getElem?_cons_succ]; exact h2, fun m hm => ?_⟩
      cases m with
      | zero => exact ⟨y, rfl, e⟩
      | succ m => 
        obtain ⟨z, hz, hne⟩ := h3 m (by omega)
        exact ⟨z, by rw [List.getElem?_cons_succ]; exact hz, hne⟩
def oIndex : List O → Option O
  | [a, b] => match (lstF a).bind dInts, asI b with
    | some ns, some x => (findI x ns 0).map fun n => .d (.int n)
    | _, _ => none
  | _ => none
theorem s_index : LookS K (rIndex K) oIndex := by
  intro Γ σ e τ stk G H v o vs os z Q rr hv ha hf k
  match ha with
  | .nil => cases hf
  | .cons _ (.cons _ _) => cases hf
  | @OAll.cons _ _ _ w b _ _ hb .nil =>
    cases e1 : lstF o with
    | none => simp [oIndex, e1] at hf
    | some xs =>
      cases e2 : dInts xs with
      | none => simp [oIndex, e1, e2] at hf
      | some ns =>
        cases e3 : asI b with
        | none => simp [oIndex, e1, e2, e3] at hf
        | some x =>
          cases e4 : findI x ns 0 with
          | none => simp [oIndex, e1, e2, e3, e4] at hf
          | some n =>
            simp [oIndex, e1, e2, e3, e4] at hf
            subst hf
            obtain rfl := orep_int hb e3
            obtain ⟨a, ws, rfl, sq, rp⟩ := lstF_of rr.wd.sub hv e1
            obtain rfl := dInts_of rp e2
            obtain ⟨h1, h2, h3⟩ := findI_spec e4
            rw [Nat.sub_zero] at h2 h3
            refine ⟨a, ns.map V.int, .int x, n, .int x, rfl, rfl, sq, rfl, ?_, ?_, ?_, fun m z' hm hz => ?_, k _ G H (rr.pushD (.int _))⟩
            · rw [List.all_eq_true]
              intro y hy
              obtain ⟨q, _, rfl⟩ := List.mem_map.mp hy
              rfl
            · rw [List.getElem?_map, h2]
              rfl
            · show (x == x) = true
              simp
            · obtain ⟨y, hy, hne⟩ := h3 m hm
              rw [List.getElem?_map, hy] at hz
              cases hz
              show (y == x) = false
              simpa using hne
end
end Dn
end
section
set_option Elab.async false
set_option linter.all false
set_option maxRecDepth 100000
set_option maxHeartbeats 4000000
/-! Dn15: what is left: recursion's ground, targets of comprehensions, zip, list(range(..)), reversed made. -/
namespace Dn
open PySem PySem.Spec L2
open PyProof.Rows hiding St
section
variable {X : Cx} {W : WX} {np : Asm} {K : PySem.W.Frag} {mg : Str → Option Value}
theorem fnok_fail {P : Program} {w : World} {base : Heap} {CX : CXT} {k : Nat} {f : Addr} {fd : FuncData} {ps : List Str} : FnOk P w K mg base CX k f fd ps (FP K mg ps.length fun _ => .fail) :=
  ⟨fun vs H Q E h => h.1, fun A outer s H args us vs Q E hr he hb hv hs => by
    obtain ⟨_, os, fp, G, _, _, _, q⟩ := hs
    exact q.elim⟩
theorem gssnd_nil : GsSnd K np gNil [] := fun Γ σ e e1 τ stk G H vs xs Q hp r rx h k => by
  cases rx with
  | nil =>
    cases h
    exact ⟨rfl, k σ r⟩
  | cons => cases h
theorem gsnd_t {t : TGs} {gs : List MG} {n : Nat} (s : GsSnd K np t gs) (hn : n = gs.length := by rfl) : GSnd K np (gTup K n t) (gT gs) := by
  intro Γ σ e e1 τ stk G H v x Q hp r rx h k
  cases rx with
  | @tup a vs xs hq rx =>
    exact ⟨a, vs, rfl, r.wd.sub.sqT hq, by rw [hn]; exact rx.length.trans (gsT_len h), s Γ σ e e1 τ stk G H vs xs Q hp r rx h k⟩
  | _ => cases h
/-! ### list(range(n)) -/
def mlistRg (m : ME) : ME := fun env => match m env with
  | .ok o e => match asI o with
    | some n => if rgOk n && decide (n.toNat ≤ line) then .ok (.l ((rgD 0 n.toNat).map O.d)) e else .fail
    | none => .fail
  | .exc x e => .exc x e
  | .fail => .fail
theorem rgV_reps {G : Hp} (n : Int) : Reps K G (rgV 0 n) (rgD 0 n.toNat) := by
  have aux : ∀ l : List Nat, Reps K G (l.map fun (i : Nat) => V.int (0 + (i : Nat))) (l.map fun (i : Nat) => D.int (0 + (i : Nat))) := by
    intro l
    induction l with
    | nil => exact .nil
    | cons x r ih => exact .cons (.int _) ih
  have := aux (List.range n.toNat)
  unfold rgV rgD
  rw [Int.sub_zero]
  exact this
theorem de_listRg {e : Expr} {m : ME} {p p2 pos pos2 : Pos} (h1 : X.mg "list" = none) (h2 : X.mg "range" = none) (h : DE X W np e m) (hc : X.calm = true := by rfl) (hg : Gl X "list" := by rfl) (hg2 : Gl X "range" := by rfl) (hs : starEach [e] X.env = (false, eval e X.env) :: starEach [] X.env := by rfl)
    (hs2 : starEach [.Call (.Name "range" p2) [e] [] pos2] X.env = (false, eval (.Call (.Name "range" p2) [e] [] pos2) X.env) :: starEach [] X.env := by rfl) : DE X W np (.Call (.Name "list" p) [.Call (.Name "range" p2) [e] [] pos2] [] pos) (mlistRg m) := by
  obtain ⟨t, pe, s⟩ := h.ex
  refine ⟨_, pe_listRg hc hg h1 (prg_1 hg2 h2 pe hs) hs2, fun Γ σ env τ stk G H Q hp r h => s Γ σ env τ stk G H _ hp r ?_⟩
  unfold mlistRg at h
  cases q : m env with
  | ok o e =>
    simp only [q] at h
    intro v G' H' r'
    cases ea : asI o with
    | none => simp only [ea] at h; exact False.elim h
    | some n =>
      simp only [ea] at h
      obtain rfl := orep_int r'.top ea
      split at h
      · rename_i hc
        obtain ⟨b1, b2⟩ := Bool.and_eq_true_iff.mp hc
        obtain ⟨c1, c2⟩ := of_decide_eq_true (p := -(2 ^ 62) ≤ n ∧ n < 2 ^ 62) b1
        have c3 : n.toNat ≤ 16777216 := of_decide_eq_true b2
        refine ⟨n, rfl, ⟨by decide, by decide, c1, c2, by rw [Int.sub_zero]; exact c3⟩, fun q hq => ?_⟩
        exact h _ _ _ (r'.pop.mkL (rgV_reps n) hq)
      · exact False.elim h
  | exc x e =>
    simp only [q] at h
    exact h
  | fail =>
    simp only [q] at h
    exact h
/-! ### zip -/
def zipD : List D → List D → List D
  | x :: xs, y :: ys => .tup [x, y] :: zipD xs ys
  | _, _ => []
theorem zipD_get : ∀ (xs ys : List D) (i : Nat) (z : D), (zipD xs ys)[i]? = some z → ∃ x y, xs[i]? = some x ∧ ys[i]? = some y ∧ z = .tup [x, y]
  | [], _, _, _, h => by simp [zipD] at h
  | _ :: _, [], _, _, h => by simp [zipD] at h
  | x :: xs, y :: ys, 0, z, h => by
    simp [zipD] at h
    exact ⟨x, y, rfl, rfl, h.symm⟩
  | x :: xs, y :: ys, i + 1, z, h => by
    obtain ⟨a, b, h1, h2, h3⟩ := zipD_get xs ys i z (by simpa [zipD] using h)
    exact ⟨a, b, by simpa using h1, by simpa using h2, h3⟩
theorem zipD_len : ∀ (xs ys : List D), (zipD xs ys).length = min xs.length ys.length
  | [], _ => by simp [zipD]
  | _ :: _, [] => by simp [zipD]
  | x :: xs, y :: ys => by
    simp only [zipD, List.length_cons, zipD_len xs ys]
    omega
def zipP (x y : D) : Option (List D) := match itT x, itT y with
  | some xs, some ys => some (zipD xs ys)
  | _, _ => match itL x, itL y with
    | some xs, some ys => some (zipD xs ys)
    | _, _ => none
def zipO (os : List O) : Option (List D) := match os with
  | [a, b] => zipP (frz a) (frz b)
  | _ => none
def mZip (ks : List AK) : Env → Rs (List D) := fun env => match evalA ks env with
  | .ok cs e => match (allS cs).bind zipO with
    | some xs => .ok xs e
    | none => .fail
  | .exc x e => .exc x e
  | .fail => .fail
theorem wk_zip {G0 : Hp} {J : It} {n : Nat} {Gd : Hp → Prop} {vs ws : List V} {xs ys : List D} (w : Walk J n Gd (YPair (fun i => vs[i]?) (fun i => ws[i]?))) (rp : Reps K G0 vs xs) (rq : Reps K G0 ws ys) (hn : n = min vs.length ws.length) (hg : ∀ G H, Sub G0 G → Sub G H → Gd H) : Wk K G0 J (zipD xs ys) := by
  intro G H s1 s2
  have g := hg G H s1 s2
  have hl : (zipD xs ys).length = n := by rw [zipD_len, ← rp.length, ← rq.length, hn]
  refine ⟨fun i hi => w.goes i H (by omega) g, by rw [hl]; exact w.stops H g, fun i x hx v H' y => ?_⟩
  have hi : i < (zipD xs ys).length := (List.getElem?_eq_some_iff.mp hx).1
  obtain ⟨T, x1, y1, e1, e2, e3, e4, e5⟩ := w.yields i H v H' (by omega) g y
  obtain ⟨a, b, h1, h2, h3⟩ := zipD_get xs ys i x hx
  obtain ⟨v1, g1, r1⟩ := rp.get h1
  obtain ⟨v2, g2, r2⟩ := rq.get h2
  have q1 : some x1 = some v1 := e4.symm.trans g1
  have q2 : some y1 = some v2 := e5.symm.trans g2
  cases q1
  cases q2
  exact .inr ⟨T, _, _, e1, e2, e3, h3, .cons (r1.mono s1) (.cons (r2.mono s1) .nil)⟩
theorem walk_zipT {a b : Addr} {xs ys : List V} {n : Nat} (hn : n = min xs.length ys.length) : Walk (RZ.ItzT K a b) n (fun H => SqT K H a xs ∧ SqT K H b ys) (YPair (fun i => xs[i]?) (fun i => ys[i]?)) := by
  subst hn
  refine ⟨fun i _ hi q => ?_, fun _ q => ⟨xs, ys, q.1, q.2, by omega⟩, fun i H v H' _ q y => ?_⟩
  · have h1 : i < xs.length := by omega
    have h2 : i < ys.length := by omega
    exact ⟨xs, ys, xs[i], ys[i], q.1, q.2, by simp [h1], by simp [h2]⟩
  · obtain ⟨T, x, z, h1, h2, h3, h4, h5⟩ := y
    exact ⟨T, x, z, h1, h2, h3, h4 xs q.1, h5 ys q.2⟩
theorem zip_two {G : Hp} {vs : List V} {os : List O} {zs : List D} (r : Reps K G vs (frzs os)) (h : zipO os = some zs) : ∃ x y v w, vs = [v, w] ∧ Rep K G v x ∧ Rep K G w y ∧ zipP x y = some zs := by
  cases os with
  | nil => cases h
  | cons a os =>
    cases os with
    | nil => cases h
    | cons b os =>
      cases os with
      | cons => cases h
      | nil =>
        cases r with
        | cons r1 r =>
          cases r with
          | cons r2 r =>
            cases r
            exact ⟨_, _, _, _, rfl, r1, r2, h⟩
theorem zipP_of {x y : D} {zs : List D} (h : zipP x y = some zs) : (∃ xs ys, itT x = some xs ∧ itT y = some ys ∧ zs = zipD xs ys) ∨ (∃ xs ys, itL x = some xs ∧ itL y = some ys ∧ zs = zipD xs ys) := by
  unfold zipP at h
  cases t1 : itT x with
  | some xs =>
    cases t2 : itT y with
    | some ys =>
      simp only [t1, t2] at h
      cases h
      exact .inl ⟨xs, ys, rfl, rfl, rfl⟩
    | none =>
      simp only [t1, t2] at h
      cases t3 : itL x with
      | none => simp only [t3] at h; cases h
      | some us =>
        cases t4 : itL y with
        | none => simp only [t3, t4] at h; cases h
        | some ws =>
          simp only [t3, t4] at h
          cases h
          exact .inr ⟨us, ws, rfl, rfl, rfl⟩
  | none =>
    simp only [t1] at h
    cases t3 : itL x with
    | none => simp only [t3] at h; cases h
    | some us =>
      cases t4 : itL y with
      | none => simp only [t3, t4] at h; cases h
      | some ws =>
        simp only [t3, t4] at h
        cases h
        exact .inr ⟨us, ws, rfl, rfl, rfl⟩
theorem di_zip {e e2 : Expr} {es : List Expr} {kk : Nat} {k1 k2 : AK} {p pos tpos : Pos} (hm : X.mg "zip" = none) (h : DA X W np [e, e2] [k1, k2]) (hg : Gl X "zip" := by rfl) (hs : starEach [e, e2] X.env = (false, eval e X.env) :: starEach [e2] X.env := by rfl) (hpl : (backTo pos (starEach [e2] X.env)).any (·.1) = false := by rfl) :
    DI X W np (.Tuple es kk tpos) (.Call (.Name "zip" p) [e, e2] [] pos) (mZip [k1, k2]) := by
  obtain ⟨t, pa, s⟩ := h.ex
  refine ⟨_, RZ.pi_zipA hg hm pa hs hpl, fun Γ σ env τ stk G H Q hp r h => s Γ σ env τ stk G H _ hp r ?_⟩
  unfold mZip at h
  cases e1 : evalA [k1, k2] env with
  | ok cs e =>
    simp only [e1] at h
    intro vs G1 H1 hl r1 n1
    cases e2 : (allS cs).bind zipO with
    | none => simp only [e2] at h; exact False.elim h
    | some zs =>
      simp only [e2] at h
      cases e3 : allS cs with
      | none => rw [e3] at e2; cases e2
      | some os =>
        rw [e3] at e2
        replace e2 : zipO os = some zs := e2
        have ec := allS_of e3
        subst ec
        have hl' : vs.length = os.length := by
          rw [← hl, List.length_map]
        obtain ⟨G2, r2, q2⟩ := r1.frzN hl'
        obtain ⟨x, y, v, w, ev, ra, rb, ez⟩ := zip_two q2 e2
        subst ev
        rcases zipP_of ez with ⟨xs, ys, t1, t2, e4⟩ | ⟨xs, ys, t1, t2, e4⟩
        · subst e4
          obtain ⟨a', us, rfl, sq, rp⟩ := itT_of ra t1
          obtain ⟨b', ws, rfl, sq', rp'⟩ := itT_of rb t2
          exact ⟨a', b', us, ws, rfl, .inr ⟨r2.wd.sub.sqT sq, r2.wd.sub.sqT sq', h _ G2 H1 r2 (wk_zip (walk_zipT rfl) rp rp' rfl fun G H s1 s2 => ⟨s2.sqT (s1.sqT sq), s2.sqT (s1.sqT sq')⟩)⟩⟩
        · subst e4
          obtain ⟨a', us, rfl, sq, rp⟩ := itL_of ra t1
          obtain ⟨b', ws, rfl, sq', rp'⟩ := itL_of rb t2
          exact ⟨a', b', us, ws, rfl, .inl ⟨r2.wd.sub.sqL sq, r2.wd.sub.sqL sq', h _ G2 H1 r2 (wk_zip (walk_zip rfl) rp rp' rfl fun G H s1 s2 => ⟨s2.sqL (s1.sqL sq), s2.sqL (s1.sqL sq')⟩)⟩⟩
  | exc x e =>
    simp only [e1] at h
    exact h
  | fail =>
    simp only [e1] at h
    exact h
end
end Dn
end
section
set_option Elab.async false
set_option linter.all false
set_option maxRecDepth 100000
set_option maxHeartbeats 4000000
/-! Dn16: tests that are comparisons, and, or. -/
namespace Dn
open PySem PySem.Spec L2
open PyProof.Rows hiding St
section
variable {X : Cx} {W : WX} {np : Asm} {K : PySem.W.Frag} {mg : Str → Option Value}
theorem tsnd_val {t : TE} {m : ME} (s : ESnd K mg W np t m) : TSnd K mg W np (tTest t) (mB m) := fun Γ σ env τ stk G H Q hp r h => s Γ σ env τ stk G H _ hp r (h.mB.imp fun o e ⟨c, eo, q⟩ v G' H' r' => by
  subst eo
  obtain rfl := r'.topB
  exact ⟨c, rfl, q G' H' r'.pop⟩)
theorem dt_cmp {op : CmpOp} {r : R2} {f : List O → Option O} {a b : Expr} {pos : Pos} {k1 k2 : AK} (ho : OpR X (compareOp op) r) (hs : OpS X.K (r2 r) f) (ha : DK X W np a k1) (hb : DK X W np b k2) (hm : behindInMarks op b = false := by first | exact nobehind _ (by decide) (by decide) | rfl) : DT X W np (.Compare a [op] [b] pos) (mB (mOp f [k1, k2])) := by
  obtain ⟨ta, p, s⟩ := ha.ex
  obtain ⟨tb, q, u⟩ := hb.ex
  exact ⟨_, pt_cmpR ho p q hm, tsnd_val (esnd_op2 s u hs)⟩
structure DW (X : Cx) (W : WX) (np : Asm) (e : Expr) (m : Env → Rs Bool) : Prop where
  ex : ∃ t, PW X e t ∧ TSnd X.K X.mg W np t m
def mTAnd (a b : Env → Rs Bool) : Env → Rs Bool := fun e => match a e with
  | .ok c e1 => if c then b e1 else .ok false e1
  | .exc x e => .exc x e
  | .fail => .fail
def mTOr (a b : Env → Rs Bool) : Env → Rs Bool := fun e => match a e with
  | .ok c e1 => if c then .ok true e1 else b e1
  | .exc x e => .exc x e
  | .fail => .fail
theorem dw_and1 {a : Expr} {pos : Pos} {m : Env → Rs Bool} (h : DT X W np a m) : DW X W np (.BoolOp .And [a] pos) m := by
  obtain ⟨t, p, s⟩ := h.ex
  exact ⟨_, pw_and1 p, s⟩
theorem dw_or1 {a : Expr} {pos : Pos} {m : Env → Rs Bool} (h : DT X W np a m) : DW X W np (.BoolOp .Or [a] pos) m := by
  obtain ⟨t, p, s⟩ := h.ex
  exact ⟨_, pw_or1 p, s⟩
theorem dw_and {a b : Expr} {rest : List Expr} {pos : Pos} {m n : Env → Rs Bool} (h : DT X W np a m) (g : DW X W np (.BoolOp .And (b :: rest) pos) n) : DW X W np (.BoolOp .And (a :: b :: rest) pos) (mTAnd m n) := by
  obtain ⟨t, p, s⟩ := h.ex
  obtain ⟨t', p', s'⟩ := g.ex
  refine ⟨_, pw_and p p', fun Γ σ env τ stk G H Q hp r h => s Γ σ env τ stk G H _ hp r ?_⟩
  unfold mTAnd at h
  cases q : m env with
  | ok c e =>
    rw [q] at h
    intro G' H' r'
    cases c with
    | true =>
      rw [if_pos rfl]
      exact s' Γ σ e τ stk G' H' Q hp r' h
    | false =>
      rw [if_neg Bool.false_ne_true]
      exact h G' H' r'
  | exc x e =>
    rw [q] at h
    exact h
  | fail =>
    rw [q] at h
    exact h
theorem dw_or {a b : Expr} {rest : List Expr} {pos : Pos} {m n : Env → Rs Bool} (h : DT X W np a m) (g : DW X W np (.BoolOp .Or (b :: rest) pos) n) : DW X W np (.BoolOp .Or (a :: b :: rest) pos) (mTOr m n) := by
  obtain ⟨t, p, s⟩ := h.ex
  obtain ⟨t', p', s'⟩ := g.ex
  refine ⟨_, pw_or p p', fun Γ σ env τ stk G H Q hp r h => s Γ σ env τ stk G H _ hp r ?_⟩
  unfold mTOr at h
  cases q : m env with
  | ok c e =>
    rw [q] at h
    intro G' H' r'
    cases c with
    | true =>
      rw [if_pos rfl]
      exact h G' H' r'
    | false =>
      rw [if_neg Bool.false_ne_true]
      exact s' Γ σ e τ stk G' H' Q hp r' h
  | exc x e =>
    rw [q] at h
    exact h
  | fail =>
    rw [q] at h
    exact h
theorem dt_w {a : Expr} {m : Env → Rs Bool} (h : DW X W np a m) : DT X W np a m := by
  obtain ⟨t, p, s⟩ := h.ex
  exact ⟨_, p.pt, s⟩
end
end Dn
end
section
set_option Elab.async false
set_option linter.all false
set_option maxRecDepth 100000
set_option maxHeartbeats 4000000
/-! Dn17: enumerate over a tuple. -/
namespace Dn
open PySem PySem.Spec L2
open PyProof.Rows hiding St
open PySem.Builtin in
/-- enumerate(v) makes its two cells -/
theorem meets_enum1 {v : Value} {o : Obj} {H : Heap → Prop} (B : Begins v o H) :
    Meets (Builtin.«enumerate.__new__» ⟨[.type "enumerate", v], []⟩) (fun _ R s => H s.heap ∧ R (.ok (.ret (.ref (s.heap.push o).objs.size))) { s with heap := (s.heap.push o).push { cls := .type "enumerate", data := .fields #[.none, .bool false, .ref s.heap.objs.size, rawInt 0, .none, .none] } }) :=
  .of_wp fun prog w A R s hs => by
    obtain ⟨hp, g, d, tk, os⟩ := s
    obtain ⟨hH, hR⟩ := hs
    have sub1 := sub_enumerate
    have it1 : ∀ {A' : Around} {E : Value → Shared → Prop} {Q : Value → Shared → Prop}, Q (.ref hp.objs.size) ⟨hp.push o, g, d, tk, os⟩ → wpAny (model prog w) A' (pyIter v) Q E ⟨hp, g, d, tk, os⟩ :=
      fun q => B.iter prog w _ _ ⟨hp, g, d, tk, os⟩ _ hH q
    wp_walk using it1
    refine wpAny_stack_any (fun stk => wpAny_pure ?_)
    split
    · rename_i cl _ _ _ _ _
      cases (cl == Value.type "enumerate") <;> (wp_walk using it1; exact ⟨_, rfl, hR⟩)
    · wp_walk using it1
      exact ⟨_, rfl, hR⟩
theorem call_enum1 {prog : Program} {w : World} {A : Around} {E : Value → Shared → Prop} {s : Shared} {v : Value} {o : Obj} {H : Heap → Prop} {Q : Value → Shared → Prop} (B : Begins v o H) (h1 : H s.heap)
    (hq : ∀ h', IsEnum h' (s.heap.objs.size + 1) s.heap.objs.size 0 .none → h'.get? s.heap.objs.size = some o → (∀ b o, s.heap.get? b = some o → h'.get? b = some o) → Q (.ref (s.heap.objs.size + 1)) { s with heap := h' }) :
    wpAny (model prog w) A (call (.type "enumerate") [v]) Q E s := by
  refine callType_new F.called_enumerate (by decide) (F.typeCall_enumerate_1 _) (F.newCall_enumerate_1 _) (fun ob => F.args_object_init_2 ob _) F.entry_enumerate_new (meets_enum1 B) ⟨h1, ?_⟩
  have sz : (s.heap.push o).objs.size = s.heap.objs.size + 1 := Heap.size_push ..
  show _ ∧ _
  rw [sz]
  have new : IsEnum ((s.heap.push o).push { cls := .type "enumerate", data := .fields #[.none, .bool false, .ref s.heap.objs.size, rawInt 0, .none, .none] }) (s.heap.objs.size + 1) s.heap.objs.size 0 .none := by
    have z := Heap.get?_push_size (s.heap.push o) (o := { cls := .type "enumerate", data := .fields #[.none, .bool false, .ref s.heap.objs.size, rawInt 0, .none, .none] }) rfl
    rw [sz] at z
    exact z
  exact ⟨⟨_, new, rfl⟩, hq _ new (Heap.get?_push_of_some _ (Heap.get?_push_size _ B.free)) fun b o' x => Heap.get?_push_of_some _ (Heap.get?_push_of_some _ x)⟩
/-- the tuple at a, each item in a new pair -/
def IteT (K : PySem.W.Frag) (a : Addr) : It where
  go := fun i H => ∃ (xs : List V) (x : V), SqT K H a xs ∧ xs[i]? = some x
  yld := fun i H v H' => ∃ T x, v = .ref T ∧ H T = none ∧ H' = upd H T (.tup [.int (i : Nat), x]) ∧ ∀ xs, SqT K H a xs → xs[i]? = some x
  stop := fun i H => ∃ xs : List V, SqT K H a xs ∧ xs.length ≤ i
theorem enum_apart {h : Heap} {e it a : Addr} {c : Int} {old : Value} {items : Array Value} (he : IsEnum h e it c old) (ht : IsTup h a items) : e ≠ a := fun z => by
  obtain ⟨o, ho, hc, _⟩ := ht
  have he' : h.get? e = some _ := he
  rw [z, ho] at he'
  have e1 := Option.some.inj he'
  rw [e1] at hc
  exact absurd (Value.type.inj hc : "enumerate" = "tuple") (by decide)
theorem turn_enumT {P : Program} {w : World} {K : PySem.W.Frag} {elts : List Expr} {kk : Nat} {tpos : Pos} (a e it : Addr) (hai : a ≠ it) :
    Turn P w K (.Tuple elts kk tpos) (IteT K a) [e, it] e (fun i h => (∃ old, IsEnum h e it ((i : Nat) : Int) old) ∧ h.IsTupleIter it a i ∧ e ≠ it) where
  mem := List.mem_cons_self
  obj := fun i h st b hb => by
    obtain ⟨⟨old, he⟩, ⟨o, ho, hc, hd⟩, _⟩ := st
    rcases List.mem_cons.mp hb with z | z
    · subst z
      exact ⟨_, he, fun v q => nomatch q⟩
    · have z' := List.mem_singleton.mp z
      subst z'
      exact ⟨o, ho, fun v q => by rw [hd] at q; cases q⟩
  keep := fun i h h' ⟨⟨old, he⟩, hi, hne⟩ k => ⟨⟨old, k e List.mem_cons_self _ he⟩, hi.at fun o q => k it (List.mem_cons_of_mem _ (List.mem_singleton.mpr rfl)) o q, hne⟩
  item := by
    intro X hP hw hK hc i pins s σ H E I hf st hg
    subst hP hw hK
    obtain ⟨⟨old, he⟩, hit, hne⟩ := st
    obtain ⟨xs, x, hq, hx⟩ := hg
    obtain ⟨its, rv, p, hz⟩ := I.tuple hq
    obtain ⟨u, hu, ru⟩ := rv.get hx
    have hel : e < s.heap.objs.size := Heap.lt_size he
    have hil : it < s.heap.objs.size := by
      obtain ⟨_, q, _⟩ := hit
      exact Heap.lt_size q
    have hea := enum_apart he p
    have hin : i < its.toArray.size := by
      have z := (List.getElem?_eq_some_iff.mp hu).1
      simpa using z
    have D := Draws.tuple (prog := X.prog) (w := X.w) (A := X.A.in1) (I.ok.hd hc) it a hai its.toArray
    refine wpAny_pyNext_enum_itemC D he ⟨hit, p⟩ hin hne (by simp [hne, hea]) fun u' h' tk hu' ho hst hT hsz hk => ?_
    have eu : u' = u := by
      have hu2 : its.toArray[i]? = some u' := hu'
      rw [List.getElem?_toArray, hu] at hu2
      exact (Option.some.inj hu2).symm
    subst eu
    refine ⟨_, rfl, wpAny_letOwnedTupleGo_enum (s := { s with heap := h', toks := tk + 1 }) ho fun h'' he' sb => ?_⟩
    have hT2 := (sb.2 _ (Nat.ne_of_gt hel)).trans hT
    have new : ObjOk X.prog X.w (upd H s.heap.objs.size (.tup [.int (i : Nat), x])) h'' s.heap.objs.size (.tup [.int (i : Nat), x]) :=
      ⟨by show 2 ≤ sizeLine; rw [sizeLine_eq]; decide, [.int i tk, u'], .cons ⟨_, rfl⟩ (.cons ru .nil), ⟨_, hT2, rfl, _, rfl⟩⟩
    have J : Inv X pins σ (upd H s.heap.objs.size (.tup [.int (i : Nat), x])) { s with heap := h'', toks := tk + 1 } :=
      I.turnedNew (ch := [e, it]) (fun b ob hb q => (sb.2 b fun z => hb (by simp [z])).trans (hk b ob (fun z => hb (by simp [z])) (fun z => hb (by simp [z])) q)) hf (Nat.le_refl _) new
    refine ⟨.ref s.heap.objs.size, _, J, rfl, ⟨_, x, rfl, I.hok.fresh (Nat.le_refl _), rfl, fun ys hy => by rw [I.tuple_inj hy hq]; exact hx⟩, ⟨⟨u', ?_⟩, hst.1.at fun o q => (sb.2 it hne.symm).trans q, hne⟩, fun b hb => ?_⟩
    · rw [show ((i + 1 : Nat) : Int) = (i : Int) + 1 by omega]
      exact he'
    · have hb' : b < s.heap.objs.size := by
        rcases List.mem_cons.mp hb with z | z
        · rw [z]; exact hel
        · rw [List.mem_singleton.mp z]; exact hil
      rw [upd_ne (Nat.ne_of_lt hb')]
      exact (hf b hb).1
  done := by
    intro X hP hw hK hc i pins s σ H E I hf st hg
    subst hP hw hK
    obtain ⟨⟨old, he⟩, hit, hne⟩ := st
    obtain ⟨xs, hq, hx⟩ := hg
    obtain ⟨its, rv, p, hz⟩ := I.tuple hq
    obtain ⟨f0, f1, f2, f3, f4, f5⟩ := hf it (List.mem_cons_of_mem _ (List.mem_singleton.mpr rfl))
    have hl := rv.length
    have hnone : its.toArray[i]? = none := by
      rw [List.getElem?_toArray]
      exact List.getElem?_eq_none (by omega)
    have D : Draws X.prog X.w X.A.in1 it [it, a] 0 (fun _ _ => False) (fun _ h => h.IsTupleIter it a i ∧ h.IsTuple a its.toArray) := {
      live := fun _ _ st => let ⟨o, ho, _⟩ := st.1; ⟨o, ho⟩
      frame := fun _ _ _ st hk => ⟨st.1.at fun o e => hk it List.mem_cons_self o e, st.2.at fun o e => hk a (List.mem_cons_of_mem _ List.mem_cons_self) o e⟩
      item := fun j s Q E hj => absurd hj (Nat.not_lt_zero _)
      done := fun s Q E st hE => wpAny_nextOf_tuple_end (A := X.A.in1) (I.ok.hd hc) st.1 st.2 hnone hE }
    exact wpAny_pyNext_enum_endD D he ⟨hit, p⟩ fun h' eb => ⟨rfl, I.turned (t' := s.toks) (fun b o hb q => eb b o hb q) f0 f1 f3 f4 f5⟩
  self := fun A i s Q E st h => wpAny_pyIter_enum st.1.choose_spec h
def iEnumT (K : PySem.W.Frag) (ta : TA) : TI := fun σ H R => ta σ H fun vs H1 => ∃ a xs, vs = [.ref a] ∧ SqT K H1 a xs ∧ R (IteT K a) H1
theorem pi_enumT {X : Cx} {e : Expr} {ta : TA} {p pos tpos : Pos} {elts : List Expr} {kk : Nat} (hg : Gl X "enumerate") (hm : X.mg "enumerate" = none) (ha : PA X [e] ta) (hs : starEach [e] X.env = [(false, eval e X.env)] := by rfl) :
    PI X (.Tuple elts kk tpos) (.Call (.Name "enumerate" p) [e] [] pos) (iEnumT X.K ta) := by
  refine ⟨fun pins s σ H R I h => ?_⟩
  refine Call_ (ld_blt I hg hm boot_enumerate (PyProof.Rows.callWith_type1 (thn (ha.run pos pins s σ H _ I h) fun us s1 ⟨vs, H1, I1, r1, q1⟩ => ?_) hs rfl))
  obtain ⟨a, xs, ex, hq, q⟩ := q1
  subst ex
  cases r1 with
  | cons r rr =>
    cases rr
    cases r
    obtain ⟨its, rv, p', hz⟩ := I1.tuple hq
    refine call_enum1 (begins_tuple a its.toArray) p' fun h' he hit hk => wpAny_pyIter_enum he ?_
    have J : Inv X pins σ H1 { s1 with heap := h' } := I1.kept (t' := s1.toks) hk
    have hai : a ≠ s1.heap.objs.size := Nat.ne_of_lt p'.lt
    refine ⟨s1.heap.objs.size + 1, [s1.heap.objs.size + 1, s1.heap.objs.size], _, _, H1, rfl, J, turn_enumT a (s1.heap.objs.size + 1) s1.heap.objs.size hai, ⟨⟨.none, he⟩, ⟨_, hit, rfl, rfl⟩, Nat.succ_ne_self _⟩, fun b hb => ?_, q⟩
    have le : s1.heap.objs.size ≤ b := by
      rcases List.mem_cons.mp hb with z | z
      · rw [z]; exact Nat.le_add_right _ _
      · rw [List.mem_singleton.mp z]; exact Nat.le_refl _
    exact I1.fpOk le (I1.hok.fresh le)
section
variable {X : Cx} {W : WX} {np : Asm} {K : PySem.W.Frag} {mg : Str → Option Value}
theorem walk_enumT {a : Addr} {xs : List V} : Walk (IteT K a) xs.length (fun H => SqT K H a xs) (YPair (fun i => some (.int (i : Nat))) (fun i => xs[i]?)) := by
  refine ⟨fun i _ hi q => ⟨xs, xs[i], q, by simp [hi]⟩, fun _ q => ⟨xs, q, Nat.le_refl _⟩, fun i H v H' _ q y => ?_⟩
  obtain ⟨T, x, h1, h2, h3, h4⟩ := y
  exact ⟨T, .int (i : Nat), x, h1, h2, h3, rfl, h4 xs q⟩
def itEn : D → Option (List D)
  | .tup xs => some (numD 0 xs)
  | .lst xs => some (numD 0 xs)
  | .scr xs => some (numD 0 xs)
  | _ => none
theorem di_enum {e : Expr} {es : List Expr} {kk : Nat} {m : ME} {p pos tpos : Pos} (hm : X.mg "enumerate" = none) (h : DE X W np e m) (hg : Gl X "enumerate" := by rfl) (hs : starEach [e] X.env = [(false, eval e X.env)] := by rfl) (hs' : starEach [e] X.env = (false, eval e X.env) :: starEach [] X.env := by rfl) : DI X W np (.Tuple es kk tpos) (.Call (.Name "enumerate" p) [e] [] pos) (mIt itEn m) := by
  obtain ⟨tl, pl, sl⟩ := (di_enumL (es := es) (kk := kk) (p := p) (pos := pos) (tpos := tpos) hm h hg hs hs').ex
  obtain ⟨t, p1, s⟩ := h.ex
  refine ⟨_, pi_or pl (pi_enumT hg hm (pa_cons p1 pa_nil hs') hs), fun Γ σ env τ stk G H Q hp r h => ?_⟩
  have left : RsQ X.K X.mg Γ W σ τ stk (fun xs e => ∀ J G' H', R X.K Γ σ e τ stk G' H' → Wk X.K G' J xs → Q J H') (mIt itE m env) → tl σ H Q := fun h => sl Γ σ env τ stk G H Q hp r h
  unfold mIt at h left
  cases q : m env with
  | ok o e =>
    simp only [q] at h left
    cases hd : frz o with
    | tup xs =>
      rw [hd] at h
      refine .inr (s Γ σ env τ stk G H _ hp r ?_)
      simp only [q]
      intro v G' H' r'
      obtain ⟨G2, r2⟩ := r'.frz
      have rd := r2.topD
      rw [hd] at rd
      obtain ⟨a, vs, rfl, sq, rp⟩ := itT_of rd rfl
      exact ⟨a, vs, rfl, r2.wd.sub.sqT sq, h _ G2 H' r2.pop (wk_num walk_enumT rp fun G H s1 s2 => s2.sqT (s1.sqT sq))⟩
    | lst xs =>
      rw [hd] at h left
      exact .inl (left h)
    | scr xs =>
      rw [hd] at h left
      exact .inl (left h)
    | _ =>
      rw [hd] at h
      exact False.elim h
  | exc x e =>
    simp only [q] at h left
    exact .inl (left h)
  | fail =>
    simp only [q] at h
    exact False.elim h
end
end Dn
end
section
set_option Elab.async false
set_option linter.all false
set_option maxRecDepth 100000
set_option maxHeartbeats 4000000
/-! Dn18: calls by keywords. -/
namespace Dn
open PySem PySem.Spec L2
open PyProof.Rows hiding St
section
variable {X : Cx} {W : WX} {np : Asm} {K : PySem.W.Frag} {mg : Str → Option Value}
structure DKw (X : Cx) (W : WX) (np : Asm) (kws : List Keyword) (ks : List AK) : Prop where
  ex : ∃ t, PK X kws t ∧ ASnd X.K X.mg W np t ks
theorem dkw_nil : DKw X W np [] [] := ⟨_, pk_nil, asnd_nil⟩
theorem dkw_cons {nm : Option Str} {e : Expr} {kpos : Pos} {kws : List Keyword} {k : AK} {ks : List AK} (h1 : DK X W np e k) (h2 : DKw X W np kws ks) : DKw X W np (⟨nm, e, kpos⟩ :: kws) (k :: ks) := by
  obtain ⟨t, p, s⟩ := h1.ex
  obtain ⟨u, q, z⟩ := h2.ex
  exact ⟨_, pk_cons p q, asnd_cons s z⟩
/-- the keywords ns in the parameters' own order -/
structure KwB (K : PySem.W.Frag) (fd : FuncData) (ps : List Str) : Prop where
  to : ∀ (s : Shared) (ws : List Value), K.In s.heap → ws.length = ps.length → BindsTo s fd ⟨[], ps.zip ws⟩ (ps.zip ws)
theorem run_kw {CX : CXT} {k : Nat} {f : Addr} {fd : FuncData} {ps : List Str} {sp : Sp} {E : L2.St → XK} {pins : List (Addr × Obj)} {σ : L2.St} {H : Hp} {s : Shared} {Q : VK} {ws : List Value} {zs : List V} (F : FnOk X.prog X.w X.K X.mg X.base CX k f fd ps sp) (hr : Room k X.A) (hb : KwB X.K fd ps) (hx : PassesAt CX X σ (E σ))
    (I : Inv X pins σ H s) (rz : Vals zs ws) (h : sp zs H Q (E σ)) : wpAny (model X.prog X.w) X.A (call (.ref f) [] (ps.zip ws)) (EP X pins σ Q) X.xe s := by
  have hl : ws.length = ps.length := by
    rw [← rz.length]
    exact F.len _ _ _ _ h
  refine wpAny_call (codeAny_mono (F.run X.A X.stack s H ⟨[], ps.zip ws⟩ ws zs Q (E σ) hr I.env0 (hb.to s ws I.kIn hl) rz h) fun r s' hq => ?_)
  cases r with
  | error e => exact hx pins H s e s' I hq
  | ok fl =>
    cases fl with
    | ret u => exact I.after hq
    | next => exact False.elim hq
    | brk => exact False.elim hq
    | cont => exact False.elim hq
theorem pe_kw {CX : CXT} {k : Nat} {f : Addr} {fd : FuncData} {ps : List Str} {sp : Sp} {E : L2.St → XK} {x : Str} {kws : List Keyword} {tk : TA} {p pos : Pos} (F : FnOk X.prog X.w X.K X.mg X.base CX k f fd ps sp) (hr : Room k X.A) (hg : Gl X x) (hm : X.mg x = some (.ref f)) (hk : PySem.W.keepIn X.K (.ref f) = true) (hb : KwB X.K fd ps) (hx : ∀ σ, PassesAt CX X σ (E σ)) (hkw : PK X kws tk)
    (hall : (backToKw pos (keywordEach kws X.env)).all (·.1.isSome) = true := by rfl) (hks : (backToKw pos (keywordEach kws X.env)).filterMap (·.1) = ps := by rfl) (hdb : (x == ("__debug__" : Str)) = false := by decide)
    (hpl : ((backTo pos (starEach [] X.env)).any (·.1) || (backToKw pos (keywordEach kws X.env)).any (·.1.isNone)) = false := by rfl) : PE X (.Call (.Name x p) [] kws pos) (fun σ H Q => tk σ H fun zs H1 => sp zs H1 Q (E σ)) := by
  refine ⟨fun pins s σ H Q I h => ?_⟩
  refine wpAny_Call_Name_kw (ld_glob I hg hm ?_ hdb)
  refine PySem.W.callWith_KW0 (h₀ := X.base) I.ok.mod.kin hk hall ?_ hpl
  refine thn (hkw.run pos pins s σ H _ I h) fun ws s2 ⟨zs, H2, I2, rz, q2⟩ => ⟨I2.kIn, ?_⟩
  rw [hks]
  exact run_kw F hr hb (hx σ) I2 rz q2
theorem de_callKW {k n : Nat} {g : Addr} {fd : FuncData} {ps : List Str} {f : List O → FR} {x : Str} {kws : List Keyword} {p pos : Pos} {ks : List AK} (F : FnOk X.prog X.w X.K X.mg X.base (L2N.CX X.prog X.w) k g fd ps (FP X.K X.mg n f)) (hr : Room k X.A) (hm : X.mg x = some (.ref g)) (hk : PySem.W.keepIn X.K (.ref g) = true) (hb : KwB X.K fd ps)
    (tk : L2N.Takes X W) (ha : DKw X W np kws ks) (hn : ks.length = n := by rfl) (hg : Gl X x := by rfl) (hall : (backToKw pos (keywordEach kws X.env)).all (·.1.isSome) = true := by rfl) (hks : (backToKw pos (keywordEach kws X.env)).filterMap (·.1) = ps := by rfl) (hdb : (x == ("__debug__" : Str)) = false := by decide)
    (hpl : ((backTo pos (starEach [] X.env)).any (·.1) || (backToKw pos (keywordEach kws X.env)).any (·.1.isNone)) = false := by rfl) : DE X W np (.Call (.Name x p) [] kws pos) (mCall f ks) := by
  obtain ⟨t, q, s⟩ := ha.ex
  exact ⟨_, pe_kw F hr hg hm hk hb (fun σ => L2N.passAt tk σ) q hall hks hdb hpl, esnd_call hn s⟩
end
end Dn
end
section
set_option Elab.async false
set_option linter.all false
set_option maxRecDepth 100000
set_option maxHeartbeats 4000000
/-! DnPick: a draw out of a state [greats, mixed]. -/
namespace Dn
open PySem PySem.Spec L2
open PyProof.Rows hiding St
/-- what is drawn, the greats and the mixed behind it -/
def pickZ (ns : List Int) (m many : Int) : Int × List Int × Int := match ns.getLast? with
  | some n => (n % many, if n / many > 0 then ns.dropLast ++ [n / many] else ns.dropLast, m)
  | none => ((((m * 40014 + 51001) % 2147483563) / 89 + ((m * 40014 + 51001) % 2147483563) / 6007 * (((m * 40014 + 51001) % 2147483563) / 60013)) % many, [], (m * 40014 + 51001) % 2147483563)
def stO (ns : List Int) (m : Int) : O := .l [.l (ns.map fun n => .d (.int n)), .d (.int m)]
def oInts? : List O → Option (List Int)
  | [] => some []
  | .d (.int i) :: r => (oInts? r).map (i :: ·)
  | _ :: _ => none
theorem oInts?_map : ∀ ns : List Int, oInts? (ns.map fun n => .d (.int n)) = some ns
  | [] => rfl
  | n :: r => by
    show (oInts? (r.map fun n => .d (.int n))).map (n :: ·) = some (n :: r)
    rw [oInts?_map r]
    rfl
def pickD : List O → FR
  | [.l [.l gs, .d (.int m)], .d (.int many)] => match oInts? gs with
    | some ns => if 0 < many ∧ many < 2 ^ 64 ∧ ns.length < 1000 ∧ 0 ≤ m ∧ m < 2147483563 then
        .ok (.d (.int (pickZ ns m many).1)) [some (stO (pickZ ns m many).2.1 (pickZ ns m many).2.2), some (.d (.int many))]
      else .fail
    | none => .fail
  | _ => .fail
theorem pickD_eq {ns : List Int} {m many : Int} (h : 0 < many ∧ many < 2 ^ 64 ∧ ns.length < 1000 ∧ 0 ≤ m ∧ m < 2147483563) : pickD [stO ns m, .d (.int many)] = .ok (.d (.int (pickZ ns m many).1)) [some (stO (pickZ ns m many).2.1 (pickZ ns m many).2.2), some (.d (.int many))] := by
  show pickD [.l [.l (ns.map fun n => .d (.int n)), .d (.int m)], .d (.int many)] = _
  simp only [pickD, oInts?_map]
  rw [if_pos h]
theorem oInts?_of {K : PySem.W.Frag} {G H : Hp} : ∀ {gs : List O} {vs : List V} {f : List Addr} {ns : List Int}, OReps K G H vs gs f → oInts? gs = some ns → vs = ns.map V.int ∧ f = [] ∧ gs = ns.map fun n => .d (.int n)
  | _, _, _, _, .nil, h => by
    cases h
    exact ⟨rfl, rfl, rfl⟩
  | _, _, _, ns, .cons (o := o) (os := os) q r, h => by
    cases q with
    | l => cases h
    | t => cases h
    | d q =>
      cases q with
      | int i =>
        cases e : oInts? os with
        | none => simp [oInts?, e] at h
        | some z =>
          simp [oInts?, e] at h
          subst h
          obtain ⟨h1, h2, h3⟩ := oInts?_of r e
          subst h1 h2 h3
          exact ⟨rfl, rfl, rfl⟩
      | _ => cases h
theorem log2_of {i : Int} {n : Nat} (h : i.natAbs < 2 ^ n) (hn : 0 < n) : i.natAbs.log2 < n := PySem.Flt.log2_lt_of hn h
theorem cdivW {i j : Int} (h : 0 < j) (h2 : j < 2 ^ 64) : CDivW i j := wide_div (b := 64) h (by omega) (by decide) (by decide)
theorem reps_ints {K : PySem.W.Frag} {G H : Hp} : ∀ ns : List Int, OReps K G H (ns.map V.int) (ns.map fun n => .d (.int n)) []
  | [] => .nil
  | n :: r => .cons (.d (.int n)) (reps_ints r)
/-- the state stands at a, its greats at b -/
theorem pick_done {K : PySem.W.Frag} {G H H' : Hp} {a b : Addr} {v1 : V} {ns : List Int} {m many r : Int} (hs : Sub G H) (ga : G a = none) (gb : G b = none) (hab : a ≠ b) (hv : v1 = .int many) (h1 : H' a = some (.lst [.ref b, .int m])) (h2 : H' b = some (.lst (ns.map V.int))) (hk : ∀ c, c ≠ a → c ≠ b → H' c = H c) :
    R K ⟨H, G, [a, b], noPin⟩ [some (.ref a), some v1] [some (stO ns m), some (.d (.int many))] [some (.int r)] [some (.d (.int r))] G H' := by
  subst hv
  refine ⟨⟨fun c o e => ?_, Sub.refl G, fun c _ hc => ⟨hk c (fun z => hc (by simp [z])) (fun z => hc (by simp [z])), rfl⟩⟩, fun i v h => (by cases h), [a, b] ++ [], [] ++ [], .cons (f := [a, b]) ?_ (.cons (.d (.int many)) .nil), .cons (.d (.int r)) .nil, by simp [hab], fun c hc => .inl (by simpa using hc)⟩
  · rw [hk c (fun z => by rw [z, ga] at e; cases e) (fun z => by rw [z, gb] at e; cases e)]
    exact hs c o e
  · exact .l h1 ga (.cons (f := [b]) (.l h2 gb (reps_ints ns)) (.cons (.d (.int m)) .nil))
theorem pickD_inv (os : List O) : pickD os = .fail ∨ ∃ gs m many ns, os = [.l [.l gs, .d (.int m)], .d (.int many)] ∧ oInts? gs = some ns ∧ (0 < many ∧ many < 2 ^ 64 ∧ ns.length < 1000 ∧ 0 ≤ m ∧ m < 2147483563) ∧ pickD os = .ok (.d (.int (pickZ ns m many).1)) [some (stO (pickZ ns m many).2.1 (pickZ ns m many).2.2), some (.d (.int many))] := by
  unfold pickD
  split
  · rename_i gs m many
    cases e : oInts? gs with
    | none => exact .inl rfl
    | some ns =>
      by_cases hc : 0 < many ∧ many < 2 ^ 64 ∧ ns.length < 1000 ∧ 0 ≤ m ∧ m < 2147483563
      · exact .inr ⟨gs, m, many, ns, rfl, e, hc, by simp only [e]; rw [if_pos hc]⟩
      · exact .inl (by simp only [e]; rw [if_neg hc])
  · exact .inl rfl
section
variable {P : Program} {w : World} {K : PySem.W.Frag} {mg : Str → Option Value} {base : Heap}
theorem ok_pick {x qual : Str} {st : Stmt} {f : Addr} {fd : FuncData} {N : List Str} (F : Fun K x qual st f fd) (S : FnScope N ["_law_state", "_law_many"] (defScope st)) (hN : N.length = 5)
    (hbody : ∀ (cdv : Value) (A : Around) (outer : List PySem.Env) (s : Shared) (H : Hp) (E : XK), Room 2 (A.deeper (envOfC qual (defScope st) s.heap.objs.size f cdv)) →
      ∃ t, PSs (cxOf (L2N.CX P w) P w K mg base N qual (defScope st) f cdv A outer s H E) (defBody st) t ∧
        ∀ (Q : VK) (H : Hp) (a b : Addr) (ns : List Int) (m many : Int), 0 < many → many < 2 ^ 64 → ns.length < 1000 → 0 ≤ m → m < 2147483563 → H a = some (.lst [.ref b, .int m]) → H b = some (.lst (ns.map V.int)) → a ≠ b →
          (∀ H', H' a = some (.lst [.ref b, .int (pickZ ns m many).2.2]) → H' b = some (.lst ((pickZ ns m many).2.1.map V.int)) → (∀ c, c ≠ a → c ≠ b → H' c = H c) → Q (.int (pickZ ns m many).1) H') →
          t { nx := fun _ H' => Q .non H', rt := Q } [some (.ref a), some (.int many), none, none, none] H) : FnOk P w K mg base (L2N.CX P w) 3 f fd ["_law_state", "_law_many"] (FP K mg 2 pickD) := by
  refine okN F S (fun vs H Q E h => h.1) fun cdv A outer s H vs Q E hr h => ?_
  obtain ⟨t, p, q⟩ := hbody cdv A outer s H E hr
  refine ⟨t, p, ?_⟩
  obtain ⟨hn, os, fp, G, sub, c, nd, hf⟩ := h
  rcases pickD_inv os with ef | ⟨gs, m, many, ns, eo, eg, hc, ep⟩
  · rw [ef] at hf
    exact hf.elim
  · rw [ep] at hf
    subst eo
    match vs, hn with
    | [v0, v1], _ =>
      cases c with
      | cons h0 c =>
        cases c with
        | cons h1 c =>
          cases c
          cases h1 with
          | d h1 =>
            cases h1
            cases h0 with
            | @l a us _ f0 ha ga r0 =>
              cases r0 with
              | cons hb r0 =>
                cases r0 with
                | cons hm r0 =>
                  cases r0
                  cases hm with
                  | d hm =>
                    cases hm
                    cases hb with
                    | @l b ws _ f1 hb gb rb =>
                      obtain ⟨e1, e2, e3⟩ := oInts?_of rb eg
                      subst e1 e2
                      have hab : a ≠ b := fun z => by
                        subst z
                        simp at nd
                      have e4 : L2.start N [V.ref a, .int many] = [some (.ref a), some (.int many), none, none, none] := by
                        unfold L2.start
                        rw [hN]
                        rfl
                      rw [e4]
                      refine q Q H a b ns m many hc.1 hc.2.1 hc.2.2.1 hc.2.2.2.1 hc.2.2.2.2 ha hb hab fun H' k1 k2 k3 => hf _ G H' ?_
                      exact pick_done sub ga gb hab rfl k1 k2 k3
end
end Dn
end
section
set_option Elab.async false
set_option linter.all false
set_option maxRecDepth 100000
set_option maxHeartbeats 4000000
/-! Dn19: list(reversed(..)), tuple(reversed(..)) of lists and tuples. -/
namespace Dn
open PySem PySem.Spec L2
open PyProof.Rows hiding St
theorem lh_rt : typeLookup (.type "reversed") "__length_hint__" = pure (some (.builtin "reversed.__length_hint__")) := by rw [typeLookup_type, builtinLookup_eq_fast]; kernel_rfl
theorem nl_rt : typeLookup (.type "reversed") "__len__" = pure none := by rw [typeLookup_type, builtinLookup_eq_fast]; kernel_rfl
theorem tupAt {h h' : Heap} {t : Addr} {items : Array Value} (x : IsTup h t items) (e : ∀ o, h.get? t = some o → h'.get? t = some o) : IsTup h' t items := let ⟨o, ho, r⟩ := x; ⟨o, e _ ho, r⟩
theorem slot_rt_hint : Slot "reversed" "__length_hint__" "reversed.__length_hint__" :=
  .of (owner := "reversed") (n := "__length_hint__") (by rw [typeLookup_type, builtinLookup_eq_fast]; kernel_rfl) (by decide +kernel) (by decide +kernel) (by decide +kernel)
    (by first | exact .inl (by decide +kernel) | exact .inr (by decide +kernel)) (by rw [isSubtype_type]; kernel_rfl)
theorem entry_rt_hint : entryFor table "reversed.__length_hint__" = some Builtin.«reversed.__length_hint__» := entryFor_of_tree (by kernel_rfl)
theorem args_rt_hint (a : Value) : argsOk "reversed.__length_hint__" ⟨[a], []⟩ := by
  unfold argsOk
  rw [signature?_of (id := "reversed.__length_hint__") (n := ['_', '_', 't', 'n', 'i', 'h', '_', 'h', 't', 'g', 'n', 'e', 'l', '_', '_']) (o := ['d', 'e', 's', 'r', 'e', 'v', 'e', 'r']) (by kernel_rfl) RT.owner_rt]
  kernel_rfl
section
variable {prog : Program} {w : World} {A : Around} {E : Value → Shared → Prop} {s : Shared}
/-- what a reversed tuple hands out -/
theorem walks_rt (hh : A.handled = none) (it t : Addr) (hne : t ≠ it) (items : Array Value) (hz : items.size ≤ sizeLine) :
    Walks prog w A it [it, t] [it] items.size (fun i v => items[items.size - 1 - i]? = some v) (fun i h => i ≤ items.size ∧ RT.IsRt h it t ((items.size : Int) - 1 - (i : Int)) ∧ IsTup h t items) where
  sub := fun b hb => by
    rw [List.mem_singleton.mp hb]
    exact List.mem_cons_self
  frame := fun i h h' x hk => by
    obtain ⟨x1, x2, o, ho, r⟩ := x
    exact ⟨x1, x2.at fun o e => hk it List.mem_cons_self o e, o, hk t (List.mem_cons_of_mem _ List.mem_cons_self) o ho, r⟩
  item := fun i s Q E hi x hQ => by
    obtain ⟨x1, x2, x3⟩ := x
    have e : (items.size : Int) - 1 - (i : Int) = ((items.size - 1 - i : Nat) : Int) := by omega
    rw [e] at x2
    have hx : items[items.size - 1 - i]? = some (items[items.size - 1 - i]'(by omega)) := Array.getElem?_eq_getElem (by omega)
    refine RT.next_rt_item x2 x3 hx hz fun h' hit' sb => ?_
    have e2 : ((items.size - 1 - i : Nat) : Int) - 1 = (items.size : Int) - 1 - ((i + 1 : Nat) : Int) := by omega
    rw [e2] at hit'
    refine hQ _ h' _ hx ⟨hi, hit', x3.extBut sb.extBut hne⟩ fun b o hb q => sb.extBut b o (fun z => hb (by rw [z]; exact List.mem_singleton.mpr rfl)) q
  done := fun s Q E x hQ => by
    obtain ⟨x1, x2, x3⟩ := x
    have e : (items.size : Int) - 1 - ((items.size : Nat) : Int) = -1 := by omega
    rw [e] at x2
    exact RT.next_rt_end hh x2 fun h' eb => hQ h' s.toks fun b o hb q => eb b o (fun z => hb (by rw [z]; exact List.mem_singleton.mpr rfl)) q
  self := fun i s Q E x h => RT.iter_rt x.2.1 h
theorem call_rt_hint {it p : Addr} {items : Array Value} {Q : Value → Shared → Prop} (hit : RT.IsRt s.heap it p ((items.size : Int) - 1)) (ht : IsTup s.heap p items) (hn : items.size ≤ sizeLine)
    (h : ∀ t tk, Q (.int (items.size : Int) t) { s with toks := tk }) : wpAny (model prog w) A (call (.builtin "reversed.__length_hint__") [.ref it]) Q E s := by
  obtain ⟨o, ho, hc, hd⟩ := id hit
  have hl : (items.size : Int) < 2 ^ 63 := by rw [sizeLine_eq] at hn; omega
  refine wpAny_call_entry slot_rt_hint hit.typeIs entry_rt_hint ?_ (args_rt_hint _)
  unfold Builtin.«reversed.__length_hint__»
  refine wpAny_bind (wpAny_of_eq (a := Value.ref it) rfl ?_)
  refine wpAny_bind (wpAny_field ho hd (x := .ref p) rfl ?_)
  show wpAny _ _ (call (.builtin "len") [Value.ref p] >>= _) _ _ _
  refine wpAny_bind (len_tuple ht hl ?_)
  show wpAny _ _ (field (.ref it) 1 >>= _) _ _ _
  refine wpAny_bind (wpAny_field (s := { s with toks := s.toks + 1 + 1 }) ho hd (x := rawInt ((items.size : Int) - 1)) rfl ?_)
  show wpAny _ _ (if (items.size : Int) < (items.size : Int) - 1 + 1 then _ else _) _ _ _
  rw [if_neg (by omega), show (items.size : Int) - 1 + 1 = (items.size : Int) from by omega]
  refine wpAny_bind (wpAny_mkInt ?_)
  exact wpAny_pure ⟨_, rfl, h _ _⟩
theorem hint_rt {it p : Addr} {items : Array Value} {Q : Bool → Shared → Prop} (hit : RT.IsRt s.heap it p ((items.size : Int) - 1)) (ht : IsTup s.heap p items) (hn : items.size ≤ sizeLine)
    (h : ∀ tk, Q ((items.size : Int) != 0) { s with toks := tk }) : wpAny (model prog w) A (Builtin.List.listLengthHint (.ref it)) Q E s := by
  have ty : s.TypeIs (.ref it) "reversed" := hit.typeIs
  have hn' := hn
  rw [sizeLine_eq] at hn'
  unfold Builtin.List.listLengthHint
  refine wpAny_bind (wpAny_specialOf ty nl_rt ?_)
  show wpAny _ A (specialOf (Value.ref it) (Str.ofString "__length_hint__") >>= _) _ _ _
  refine wpAny_bind (wpAny_specialOf ty lh_rt ?_)
  generalize hid : ("reversed.__length_hint__" : String) = k0
  wp_delta
  rw [show splitId k0 = some ("reversed", "__length_hint__") from by subst hid; decide +kernel]
  subst hid
  refine wpAny_bind (wpAny_isInstance (b := true) ty (by rw [isSubtype_type]; kernel_rfl) ?_)
  refine wpAny_ite_split (fun hab => absurd hab (by decide)) (fun _ => ?_)
  refine wpAny_ite_split (fun hab => absurd hab (by decide +kernel)) (fun _ => ?_)
  refine wpAny_bind (wpAny_rule ?_)
  refine wpAny_bind (wpAny_of_eq (slot_rt_hint.bind _) ?_)
  refine wpAny_bind (wpAny_attempt (call_rt_hint hit ht hn fun t tk => ?_))
  have b1 : Builtin.List.listFitsIndex ((items.size : Int)) = true := by simp [Builtin.List.listFitsIndex]; omega
  have b2 : Builtin.List.listTooLong ((items.size : Int).toNat) = false := by simp [Builtin.List.listTooLong, sizeLine]; omega
  have b3 : ¬ (items.size : Int) < 0 := by omega
  have h := h tk
  generalize (items.size : Int) = n at b1 b2 b3 h ⊢
  have a0 : asInt? (Value.int n t) = pure (some n) := rfl
  show wpAny _ _ (asInt? (Value.int n t) >>= _) _ _ _
  rw [a0]
  refine wpAny_bind (wpAny_pure ?_)
  show wpAny _ _ (if (!Builtin.List.listFitsIndex n) = true then _ else _) _ _ _
  refine wpAny_ite_split (fun hab => absurd hab (by rw [b1]; decide)) (fun _ => ?_)
  refine wpAny_ite_split (fun hab => absurd hab b3) (fun _ => ?_)
  refine wpAny_ite_split (fun hab => absurd hab (by rw [b2]; decide)) (fun _ => ?_)
  exact wpAny_pure h
/-- an iterator walking back over a list or a tuple -/
def RvIt (h : Heap) (it p : Addr) (items : Array Value) : Prop := (RT.IsRt h it p ((items.size : Int) - 1) ∧ IsTup h p items) ∨ (h.IsRevIter it p ((items.size : Int) - 1) ∧ h.IsList p items)
theorem RvIt.push {h : Heap} {it p : Addr} {items : Array Value} (x : RvIt h it p items) (o : Obj) : RvIt (h.push o) it p items :=
  x.elim (fun y => .inl ⟨y.1.at fun o e => Heap.get?_push_of_some _ e, tupAt y.2 fun o e => Heap.get?_push_of_some _ e⟩) (fun y => .inr ⟨y.1.at fun o e => Heap.get?_push_of_some _ e, y.2.push _⟩)
theorem RvIt.lt {h : Heap} {it p : Addr} {items : Array Value} (x : RvIt h it p items) : it < h.objs.size ∧ p < h.objs.size := by
  rcases x with ⟨⟨o, ho, _⟩, ⟨o2, ho2, _⟩⟩ | ⟨⟨o, ho, _⟩, ⟨o2, ho2, _⟩⟩
  · exact ⟨Heap.lt_size ho, Heap.lt_size ho2⟩
  · exact ⟨Heap.lt_size ho, Heap.lt_size ho2⟩
theorem extend_rv {R : Result → Shared → Prop} {Q2 : Fin → Shared → Prop} {E2 : Value → Shared → Prop} {it p S : Addr} {items : Array Value} (hh : A.handled = none) (hit : RvIt s.heap it p items) (hne : p ≠ it) (hn : items.size ≤ sizeLine) (hSi : S ≠ it) (hSt : S ≠ p) (res : Value)
    {c0 : Nat} (hS : s.heap.get? S = some { cls := .type "list", dict := none, data := .seq #[] c0, slots := #[] })
    (hR : ∀ h' tk acc c, (∀ b o, b ≠ S → b ≠ it → s.heap.get? b = some o → h'.get? b = some o) → h'.get? S = some { cls := .type "list", dict := none, data := .seq acc c, slots := #[] } →
      ItemsOf (fun i v => items[items.size - 1 - i]? = some v) acc items.size → R (.ok (.ret res)) { s with heap := h', toks := tk })
    (hG : ∀ s', codeAny (model prog w) A (.builtin "list.extend.loop" ⟨[.ref S, .ref it, res], []⟩) R s' → Q2 (.again (.builtin "list.extend.loop" ⟨[.ref S, .ref it, res], []⟩)) s') :
    wpAny (model prog w) A.in1 (Builtin.List.listExtendWith (.ref S) (.ref it) res) Q2 E2 s := by
  have nSf : S ∉ [it, p] := by simp [hSi, hSt]
  have ns : Builtin.List.listSameRef (.ref S) (.ref it) = false := by simp [Builtin.List.listSameRef, hSi]
  have fin : ∀ s' acc c, Moved (S :: [it]) (fun a b => b = a) s s' → s'.heap.get? S = some { cls := .type "list", dict := none, data := .seq acc c, slots := #[] } → ItemsOf (fun i v => items[items.size - 1 - i]? = some v) acc items.size → R (.ok (.ret res)) s' := by
    intro s' acc c hm hS' hacc
    rw [Moved.eq_with hm]
    refine hR s'.heap s'.toks acc c (fun b o hb hb2 e => hm.heap b o (fun hmem => ?_) e) hS' hacc
    rcases List.mem_cons.mp hmem with e' | hmem
    · exact hb e'
    · exact hb2 (List.mem_singleton.mp hmem)
  have e0 : ((items.size : Nat) : Int) - 1 - ((0 : Nat) : Int) = (items.size : Int) - 1 := by omega
  unfold Builtin.List.listExtendWith
  rcases hit with ⟨hit, ht⟩ | ⟨hit, ht⟩
  · have W := (walks_rt (prog := prog) (w := w) (A := A.in1) hh it p hne items hn).toS
    have ty : s.TypeIs (.ref it) "reversed" := hit.typeIs
    refine wpAny_bind (wpAny_typeOf ty ?_)
    rw [if_neg (by rw [ns]; decide)]
    refine wpAny_bind (RT.iter_rt hit ?_)
    have key : ∀ (h : Heap) (c₁ tk : Nat), RT.IsRt h it p ((items.size : Int) - 1) → IsTup h p items → (∀ b o, b ≠ S → s.heap.get? b = some o → h.get? b = some o) →
        h.get? S = some { cls := .type "list", data := .seq #[] c₁ } → codeAny (model prog w) A (.builtin "list.extend.loop" ⟨[.ref S, .ref it, res], []⟩) R { s with heap := h, toks := tk } := by
      intro h c₁ tk i1 i2 hk hS₁
      refine codeAny_extend_loopS W hn S nSf res items.size 0 _ #[] c₁ rfl (Nat.zero_le _) ⟨Nat.zero_le _, by rw [e0]; exact i1, i2⟩ hS₁ (ItemsOf.nil _) fun s' acc' c' hm hS' hacc => ?_
      rw [Moved.eq_with hm]
      refine hR s'.heap s'.toks acc' c' (fun b o hb hb2 e => hm.heap b o (fun hmem => ?_) (hk b o hb e)) hS' hacc
      rcases List.mem_cons.mp hmem with e' | hmem
      · exact hb e'
      · exact hb2 (List.mem_singleton.mp hmem)
    refine wpAny_bind (wpAny_holding (hint_rt hit ht hn fun tk => ?_))
    refine wpAny_ite_split (fun _ => ?_) (fun _ => wpAny_pure (hG _ (key _ c0 _ hit ht (fun b o _ e => e) hS)))
    refine wpAny_bind (wpAny_rule ?_)
    refine wpAny_bind ?_
    show wpAny _ _ (updateSeq S (·.push .none) >>= fun _ => updateSeq S (·.pop)) _ _ _
    refine wpAny_bind (wpAny_updateSeq hS rfl ?_)
    have hS₂ := Heap.get?_update_self (Obj.mapSeq (·.push Value.none)) hS rfl
    refine wpAny_updateSeq (hz := by seq_fits) hS₂ rfl ?_
    have hS₃ := Heap.get?_update_self (Obj.mapSeq (·.pop)) hS₂ rfl
    have oth : ∀ b o, b ≠ S → s.heap.get? b = some o → ((s.heap.update S (Obj.mapSeq (·.push Value.none))).update S (Obj.mapSeq (·.pop))).get? b = some o :=
      fun b o hb e => (Heap.get?_update_other _ _ (Ne.symm hb)).trans ((Heap.get?_update_other _ _ (Ne.symm hb)).trans e)
    exact wpAny_pure (hG _ (key _ _ _ (hit.at fun o e => oth _ o (Ne.symm hSi) e) (tupAt ht fun o e => oth _ o (Ne.symm hSt) e) oth hS₃))
  · have W := (Walks.listRev (prog := prog) (w := w) (A := A.in1) hh it p hne items).toS
    have ty : s.TypeIs (.ref it) "list_reverseiterator" := hit.typeIs
    refine wpAny_bind (wpAny_typeOf ty ?_)
    rw [if_neg (by rw [ns]; decide)]
    refine wpAny_bind (wpAny_pyIter_revIter hit ?_)
    refine wpAny_bind (wpAny_holding ?_)
    unfold Builtin.List.listLengthHint
    refine wpAny_bind (wpAny_specialOf ty RT.nolen_lri ?_)
    show wpAny _ A.in1 (specialOf (Value.ref it) (Str.ofString "__length_hint__") >>= _) _ _ _
    refine wpAny_bind (wpAny_specialOf ty RT.hint_lri ?_)
    generalize hid : ("list_reverseiterator.__length_hint__" : String) = k0
    wp_delta
    rw [show splitId k0 = some ("list_reverseiterator", "__length_hint__") from by subst hid; decide +kernel]
    subst hid
    refine wpAny_bind (wpAny_isInstance (b := true) ty (by rw [isSubtype_type]; kernel_rfl) ?_)
    refine wpAny_pure ?_
    rw [if_neg (by decide)]
    exact wpAny_pure (hG _ (codeAny_extend_loopS W hn _ nSf _ items.size 0 _ _ _ rfl (Nat.zero_le _) ⟨Nat.zero_le _, by rw [e0]; exact hit, ht⟩ hS (ItemsOf.nil _) fin))
/-- list(reversed(..)) -/
theorem call_listRv {Q : Value → Shared → Prop} {it p : Addr} {items : Array Value} (hh : A.handled = none) (hit : RvIt s.heap it p items) (hne : p ≠ it) (hn : items.size ≤ sizeLine)
    (hQ : ∀ h' tk acc c, (∀ b o, b ≠ it → s.heap.get? b = some o → h'.get? b = some o) →
      h'.get? s.heap.objs.size = some { cls := .type "list", dict := none, data := .seq acc c, slots := #[] } → ItemsOf (fun i v => items[items.size - 1 - i]? = some v) acc items.size → Q (.ref s.heap.objs.size) { s with heap := h', toks := tk }) :
    wpAny (model prog w) A (call (.type "list") [.ref it]) Q E s := by
  obtain ⟨l1, l2⟩ := hit.lt
  refine callType_codes (Q₁ := fun obj s₁ => obj = .ref s.heap.objs.size ∧ s₁ = { s with heap := s.heap.push { cls := .type "list", data := .seq #[] } }) F.called_list (F.typeCall_list_1 _) F.entry_list_init
    (code_list_new _ ⟨rfl, rfl⟩) fun obj s₁ h₁ => ?_
  obtain ⟨rfl, rfl⟩ := h₁
  have hS : (s.heap.push { cls := .type "list", data := .seq #[] }).get? s.heap.objs.size = some { cls := .type "list", data := .seq #[] } := Heap.get?_push_size _ rfl
  refine ⟨⟨_, hS, rfl⟩, F.args_list_init_2 _ _, ?_⟩
  show wpAny _ _ (do let old ← Builtin.List.listItems (.ref s.heap.objs.size); Builtin.List.listUpdate (.ref s.heap.objs.size) (fun _ => #[]); letGo old.toList.reverse; Builtin.List.listExtendWith (.ref s.heap.objs.size) (.ref it) .none) _ _ _
  refine wpAny_bind ?_
  unfold Builtin.List.listItems
  refine wpAny_bind (wpAny_seqItems hS rfl (wpAny_pure ?_))
  show wpAny _ _ (updateSeq s.heap.objs.size (fun _ => #[]) >>= fun _ => letGo (#[] : Array Value).toList.reverse >>= fun _ => Builtin.List.listExtendWith (.ref s.heap.objs.size) (.ref it) .none) _ _ _
  refine wpAny_bind (wpAny_updateSeq hS rfl ?_)
  have hS₂ := Heap.get?_update_self (Obj.mapSeq (fun _ => (#[] : Array Value))) hS rfl
  have oth : ∀ b o, b ≠ s.heap.objs.size → s.heap.get? b = some o → ((s.heap.push { cls := .type "list", data := .seq #[] }).update s.heap.objs.size (Obj.mapSeq (fun _ => (#[] : Array Value)))).get? b = some o :=
    fun b o hb e => (Heap.get?_update_other _ _ (Ne.symm hb)).trans (Heap.get?_push_of_some _ e)
  have hit2 : RvIt ((s.heap.push { cls := .type "list", data := .seq #[] }).update s.heap.objs.size (Obj.mapSeq (fun _ => (#[] : Array Value)))) it p items :=
    hit.elim (fun y => .inl ⟨y.1.at fun o e => oth _ o (Nat.ne_of_lt l1) e, tupAt y.2 fun o e => oth _ o (Nat.ne_of_lt l2) e⟩) (fun y => .inr ⟨y.1.at fun o e => oth _ o (Nat.ne_of_lt l1) e, y.2.at fun o e => oth _ o (Nat.ne_of_lt l2) e⟩)
  refine wpAny_bind (wpAny_letGo ?_)
  refine extend_rv (A := A.in1) hh hit2 hne hn (Nat.ne_of_gt l1) (Nat.ne_of_gt l2) .none hS₂ (fun h' tk acc c hk hS' hacc => ?_) fun s' hg => ⟨plainId_quiet F.plain_extend_loop _, hg⟩
  exact ⟨rfl, hQ h' tk acc c (fun b o hb e => hk b o (Nat.ne_of_lt (Heap.lt_size e)) hb (oth b o (Nat.ne_of_lt (Heap.lt_size e)) e)) hS' hacc⟩
theorem collect_rv {it p : Addr} {items : Array Value} {Q : List Value → Shared → Prop} (hh : A.handled = none) (hit : RvIt s.heap it p items) (hne : p ≠ it) (hn : items.size ≤ sizeLine)
    (hQ : ∀ (h' : Heap) (tk : Nat) (acc : Array Value), (∀ b o, b ≠ it → s.heap.get? b = some o → h'.get? b = some o) → ItemsOf (fun i v => items[items.size - 1 - i]? = some v) acc items.size → Q acc.toList { s with heap := h', toks := tk }) :
    wpAny (model prog w) A (collect (.ref it)) Q E s := by
  obtain ⟨l1, l2⟩ := hit.lt
  unfold collect
  refine wpAny_bind (wpAny_runValue (codeAny_builtin F.entry_proto_collect ?_))
  rw [Around.under_plainId F.plain_proto_collect _]
  show wpAny _ A.in1 (newList [] >>= fun l' => again (.builtin "list.__iadd__" ⟨[l', .ref it], []⟩)) _ _ s
  refine wpAny_bind (wpAny_newObj_type ?_)
  refine wpAny_pure ⟨plainId_quiet F.plain_list_iadd _, codeAny_builtin F.entry_list_iadd ?_⟩
  rw [Around.under_plainId F.plain_list_iadd _]
  have hS₁ : (s.heap.push { cls := .type "list", data := .seq ([] : List Value).toArray }).get? s.heap.objs.size = some { cls := .type "list", data := .seq ([] : List Value).toArray } := Heap.get?_push_size _ rfl
  show wpAny _ A.in1 (Builtin.List.listExtendWith (.ref s.heap.objs.size) (.ref it) (.ref s.heap.objs.size)) _ _ _
  refine extend_rv (s := { s with heap := s.heap.push { cls := .type "list", data := .seq ([] : List Value).toArray } }) hh (hit.push _) hne hn (Nat.ne_of_gt l1) (Nat.ne_of_gt l2) _ hS₁ (fun h' tk acc c hk hS' hacc => ?_) fun s' hg => ⟨plainId_quiet F.plain_extend_loop _, hg⟩
  show wpAny _ A (load s.heap.objs.size >>= _) _ _ _
  refine wpAny_bind (wpAny_load hS' ?_)
  refine wpAny_pure ?_
  exact hQ h' tk acc (fun b o hb e => hk b o (Nat.ne_of_lt (Heap.lt_size e)) hb (Heap.get?_push_of_some _ e)) hacc
theorem code_tupRv {it p : Addr} {items : Array Value} {Q₁ : Value → Shared → Prop} (hh : A.handled = none) (hit : RvIt s.heap it p items) (hne : p ≠ it) (hn : items.size ≤ sizeLine)
    (h : ∀ (h' : Heap) (tk : Nat) (acc : Array Value), (∀ b o, b ≠ it → s.heap.get? b = some o → h'.get? b = some o) → ItemsOf (fun i v => items[items.size - 1 - i]? = some v) acc items.size →
      Q₁ (.ref h'.objs.size) { s with heap := h'.push { cls := .type "tuple", data := .seq acc }, toks := tk }) :
    codeAny (model prog w) A (.call (.builtin "tuple.__new__") ⟨[.type "tuple", .ref it], []⟩) (wants Q₁ E) s := by
  refine codeAny_of_tree ?_
  show wpAny _ A.in1 (do checkBuiltinCall "tuple.__new__" ⟨[.type "tuple", .ref it], []⟩; again (.builtin "tuple.__new__" ⟨[.type "tuple", .ref it], []⟩)) _ _ s
  refine wpAny_bind (wpAny_of_eq (F.newCall_tuple_1 _) (wpAny_pure ⟨plainId_quiet F.plain_tuple_new _, codeAny_builtin F.entry_tuple_new ?_⟩))
  rw [Around.under_plainId F.plain_tuple_new _]
  have hsub := sub_tuple_self
  have hinit := init_tuple_lookup
  have hmh := madeHere_tuple
  have hh1 : A.in1.handled = none := hh
  have aft : ∀ (h' : Heap) (tk : Nat) (acc : Array Value), (∀ b o, b ≠ it → s.heap.get? b = some o → h'.get? b = some o) → ItemsOf (fun i v => items[items.size - 1 - i]? = some v) acc items.size →
      wpAny (model prog w) A.in1 (Builtin.Tuple.tupleExact acc.toList.toArray >>= fun v => ret v) (fun fin s' => match fin with | .done f => wants Q₁ E (.ok f) s' | .again c' => c'.quiet = true ∧ codeAny (model prog w) A c' (wants Q₁ E) s') (fun e s' => wants Q₁ E (.error e) s') { s with heap := h', toks := tk } := by
    intro h' tk acc hk hacc
    unfold Builtin.Tuple.tupleExact
    refine wpAny_bind (wpAny_newObj_type ?_ (by show acc.toList.toArray.size ≤ sizeLine; simp only [Array.toArray_toList]; rw [hacc.1]; exact hn))
    refine wpAny_pure ?_
    have e : acc.toList.toArray = acc := by simp
    rw [e]
    exact h h' tk acc hk hacc
  rcases id hit with ⟨h1, h2⟩ | ⟨h1, h2⟩
  · have hTI : s.TypeIs (.ref it) "reversed" := h1.typeIs
    wp_walk using wpAny_typeOf hTI, collect_rv (A := A.in1) hh1 hit hne hn
    exact aft
  · have hTI : s.TypeIs (.ref it) "list_reverseiterator" := h1.typeIs
    wp_walk using wpAny_typeOf hTI, collect_rv (A := A.in1) hh1 hit hne hn
    exact aft
theorem call_tupRv {it p : Addr} {items : Array Value} {Q : Value → Shared → Prop} (hh : A.handled = none) (hit : RvIt s.heap it p items) (hne : p ≠ it) (hn : items.size ≤ sizeLine)
    (hQ : ∀ (h' : Heap) (tk : Nat) (acc : Array Value), (∀ b o, b ≠ it → s.heap.get? b = some o → h'.get? b = some o) → ItemsOf (fun i v => items[items.size - 1 - i]? = some v) acc items.size →
      Q (.ref h'.objs.size) { s with heap := h'.push { cls := .type "tuple", data := .seq acc }, toks := tk }) :
    wpAny (model prog w) A (call (.type "tuple") [.ref it]) Q E s := by
  refine callType_codes (Q₁ := fun obj s₁ => s₁.TypeIs obj "tuple" ∧ Q obj s₁) F.called_tuple (F.typeCall_tuple_1 _) F.entry_object_init
    (code_tupRv (A := A.in1) hh hit hne hn fun h' tk acc hk hacc => ⟨⟨_, Heap.get?_push_size _ rfl, rfl⟩, hQ h' tk acc hk hacc⟩) fun obj s₁ h₁ => ?_
  exact ⟨h₁.1, F.args_object_init_2 obj _, object_init_meets F.called_tuple.init.lookup F.called_tuple.made (by decide) prog w A.in1 _ s₁ ⟨h₁.1, rfl, h₁.2⟩⟩
end
/-- tuple(reversed(x)), list(reversed(x)) of a list or a tuple -/
def tTupRv (K : PySem.W.Frag) (te : TE) : TE := fun σ H Q => te σ H fun v H1 => ∃ (a : Addr) (xs : List V), v = .ref a ∧ (SqL K H1 a xs ∨ SqT K H1 a xs) ∧ ∀ q, H1 q = none → Q (.ref q) (upd H1 q (.tup xs.reverse))
def tLstRv (K : PySem.W.Frag) (te : TE) : TE := fun σ H Q => te σ H fun v H1 => ∃ (a : Addr) (xs : List V), v = .ref a ∧ (SqL K H1 a xs ∨ SqT K H1 a xs) ∧ ∀ q, H1 q = none → Q (.ref q) (upd H1 q (.lst xs.reverse))
section
variable {X : Cx} {W : WX} {np : Asm}
/-- what both share: the made iterator, and what the outer call then owes -/
theorem rv_made {pins : List (Addr × Obj)} {σ : L2.St} {H1 : Hp} {s1 : Shared} {a : Addr} {xs : List V} {A : Around} {E : Value → Shared → Prop} {Q : Value → Shared → Prop} (I1 : Inv X pins σ H1 s1) (hq : SqL X.K H1 a xs ∨ SqT X.K H1 a xs)
    (k : ∀ (it : Addr) (items : Array Value) (h' : Heap) (tk : Nat), RvIt h' it a items → a ≠ it → items.size ≤ sizeLine → Vals xs items.toList → Inv X pins σ H1 { s1 with heap := h', toks := tk } →
      (∀ (H2 : Hp) (h1 h2 : Heap) (tk1 tk2 : Nat), H2 it = none → Inv X pins σ H2 { s1 with heap := h1, toks := tk1 } → (∀ b o, b ≠ it → h1.get? b = some o → h2.get? b = some o) → Inv X pins σ H2 { s1 with heap := h2, toks := tk2 }) → H1 it = none → it < h'.objs.size → Q (.ref it) { s1 with heap := h', toks := tk }) :
    wpAny (model X.prog X.w) A (call (.type "reversed") [.ref a]) Q E s1 := by
  have hn0 : H1 s1.heap.objs.size = none := I1.hok.fresh (Nat.le_refl _)
  have back : ∀ (H2 : Hp) (h1 h2 : Heap) (tk1 tk2 : Nat), H2 s1.heap.objs.size = none → Inv X pins σ H2 { s1 with heap := h1, toks := tk1 } → (∀ b o, b ≠ s1.heap.objs.size → h1.get? b = some o → h2.get? b = some o) → Inv X pins σ H2 { s1 with heap := h2, toks := tk2 } := by
    intro H2 h1 h2 tk1 tk2 hn I hk
    obtain ⟨f0, f1, f2, f3, f4, f5⟩ := I1.fpOk (H' := H2) (b := s1.heap.objs.size) (Nat.le_refl _) hn
    exact I.turned (t' := tk2) (fun b o hb e => hk b o hb e) f0 f1 f3 f4 f5
  rcases hq with hq | hq
  · obtain ⟨its, rv, p', hz⟩ := I1.list hq
    have hl := p'.isList
    obtain ⟨ol, hol, _⟩ := id hl
    have hne : a ≠ s1.heap.objs.size := Nat.ne_of_lt (Heap.lt_size hol)
    have hn : its.toArray.size ≤ sizeLine := by rw [List.size_toArray, ← rv.length]; exact hz
    refine call_reversed_list hl ?_
    have k0 : ∀ b o, s1.heap.get? b = some o → (s1.heap.push (revObj a ((its.toArray.size : Int) - 1))).get? b = some o := fun b o e => Heap.get?_push_of_some _ e
    have I2 : Inv X pins σ H1 { s1 with heap := s1.heap.push (revObj a ((its.toArray.size : Int) - 1)), toks := s1.toks } := I1.kept (t' := s1.toks) k0
    exact k _ its.toArray _ s1.toks (.inr ⟨⟨_, Heap.get?_push_size _ rfl, rfl, rfl⟩, hl.push _⟩) hne hn rv I2 back hn0 (by simp [Heap.push])
  · obtain ⟨its, rv, p', hz⟩ := I1.tuple hq
    obtain ⟨ol, hol, _⟩ := id p'
    have hne : a ≠ s1.heap.objs.size := Nat.ne_of_lt (Heap.lt_size hol)
    have hn : its.toArray.size ≤ sizeLine := by rw [List.size_toArray, ← rv.length]; exact hz
    have hn2 := hn
    rw [sizeLine_eq] at hn2
    refine RT.call_reversed_tup p' (fun A E Q k => len_tuple p' (by omega) k) ?_
    have k0 : ∀ b o, s1.heap.get? b = some o → (s1.heap.push (RT.rtObj a ((its.toArray.size : Int) - 1))).get? b = some o := fun b o e => Heap.get?_push_of_some _ e
    have I2 : Inv X pins σ H1 { s1 with heap := s1.heap.push (RT.rtObj a ((its.toArray.size : Int) - 1)), toks := s1.toks + 1 + 1 } := I1.kept (t' := s1.toks + 1 + 1) k0
    exact k _ its.toArray _ (s1.toks + 1 + 1) (.inl ⟨⟨_, Heap.get?_push_size _ rfl, rfl, rfl⟩, tupAt p' (k0 _)⟩) hne hn rv I2 back hn0 (by simp [Heap.push])
theorem pe_tupRv {e : Expr} {te : TE} {p p2 pos pos2 : Pos} (hc : X.calm = true) (hg : Gl X "tuple") (hm : X.mg "tuple" = none) (hg2 : Gl X "reversed") (hm2 : X.mg "reversed" = none) (he : PE X e te)
    (hs : starEach [e] X.env = (false, eval e X.env) :: starEach [] X.env)
    (hs2 : starEach [.Call (.Name "reversed" p2) [e] [] pos2] X.env = (false, eval (.Call (.Name "reversed" p2) [e] [] pos2) X.env) :: starEach [] X.env) :
    PE X (.Call (.Name "tuple" p) [.Call (.Name "reversed" p2) [e] [] pos2] [] pos) (tTupRv X.K te) := by
  refine ⟨fun pins s σ H Q I h => ?_⟩
  refine Call_ (ld_blt I hg hm boot_tuple (PyProof.Rows.callWith_type1 (args_cons (Call_ (ld_blt I hg2 hm2 PyProof.Rows.boot_reversed (PyProof.Rows.callWith_type1 (args_cons (thn (he.run pins s σ H _ I h) fun u s1 ⟨v, H1, I1, r1, q1⟩ => args_nil ?_) hs) hs rfl))) hs2) hs2 rfl))
  obtain ⟨a, xs, ev, hq, q⟩ := q1
  subst ev
  obtain rfl : u = Value.ref a := r1
  refine rv_made I1 hq fun it items h' tk hit hne hn rv I2 back hn0 hlt => args_nil ?_
  refine call_tupRv (s := { s1 with heap := h', toks := tk }) (I1.ok.hd hc) hit hne hn fun h2 tk2 acc hk hi => ?_
  have I3 := back H1 h' h2 tk tk2 hn0 I2 hk
  have hl : xs.length = items.size := rv.length
  have rv' : Vals xs.reverse acc.toList := RT.vals_rev (its := items.toList) rv (by rw [Array.toArray_toList]; exact hi)
  refine ⟨.ref h2.objs.size, upd H1 h2.objs.size (.tup xs.reverse), I3.laid (t' := tk2) (fun c o e => Heap.get?_push_of_some _ e) (Nat.le_refl _) (show ObjOk X.prog X.w _ _ _ (.tup xs.reverse) from ⟨by rw [List.length_reverse, hl]; exact hn, acc.toList, rv', ?_⟩), rfl, q _ (I3.hok.fresh (Nat.le_refl _))⟩
  rw [Array.toArray_toList]
  exact IsTup.new _ _
theorem pe_lstRv {e : Expr} {te : TE} {p p2 pos pos2 : Pos} (hc : X.calm = true) (hg : Gl X "list") (hm : X.mg "list" = none) (hg2 : Gl X "reversed") (hm2 : X.mg "reversed" = none) (he : PE X e te)
    (hs : starEach [e] X.env = (false, eval e X.env) :: starEach [] X.env)
    (hs2 : starEach [.Call (.Name "reversed" p2) [e] [] pos2] X.env = (false, eval (.Call (.Name "reversed" p2) [e] [] pos2) X.env) :: starEach [] X.env) :
    PE X (.Call (.Name "list" p) [.Call (.Name "reversed" p2) [e] [] pos2] [] pos) (tLstRv X.K te) := by
  refine ⟨fun pins s σ H Q I h => ?_⟩
  refine Call_ (ld_blt I hg hm boot_list (PyProof.Rows.callWith_type1 (args_cons (Call_ (ld_blt I hg2 hm2 PyProof.Rows.boot_reversed (PyProof.Rows.callWith_type1 (args_cons (thn (he.run pins s σ H _ I h) fun u s1 ⟨v, H1, I1, r1, q1⟩ => args_nil ?_) hs) hs rfl))) hs2) hs2))
  obtain ⟨a, xs, ev, hq, q⟩ := q1
  subst ev
  obtain rfl : u = Value.ref a := r1
  refine rv_made I1 hq fun it items h' tk hit hne hn rv I2 back hn0 hlt => args_nil ?_
  refine call_listRv (s := { s1 with heap := h', toks := tk }) (I1.ok.hd hc) hit hne hn fun h2 tk2 acc c hk hg2 hi => ?_
  have hl : xs.length = items.size := rv.length
  have rv' : Vals xs.reverse acc.toList := RT.vals_rev (its := items.toList) rv (by rw [Array.toArray_toList]; exact hi)
  have hq2 : H1 h'.objs.size = none := I2.hok.fresh (Nat.le_refl _)
  have I3 : Inv X pins σ (upd H1 h'.objs.size (.lst xs.reverse)) { s1 with heap := h'.push { cls := .type "list", dict := none, data := .seq acc c, slots := #[] }, toks := tk } :=
    I2.laid (t' := tk) (fun b o e => Heap.get?_push_of_some _ e) (Nat.le_refl _) (show ObjOk X.prog X.w _ _ _ (.lst xs.reverse) from ⟨by rw [List.length_reverse, hl]; exact hn, acc.toList, c, rv', by rw [Array.toArray_toList]; exact Heap.get?_push_size _ rfl⟩)
  have I4 := back _ _ h2 tk tk2 (by rw [upd_ne (Nat.ne_of_lt hlt)]; exact hn0) I3 fun b o hb e => by
    rcases Heap.get?_push_cases e with ⟨e1, e2⟩ | e1
    · rw [e1, e2]
      exact hg2
    · exact hk b o hb e1
  exact ⟨.ref h'.objs.size, _, I4, rfl, q _ hq2⟩
def seqF (o : O) : Option (List D) := match tupF o with
  | some xs => some xs
  | none => lstF o
theorem seqF_of {G H : Hp} {K : PySem.W.Frag} (e : Sub G H) {v : V} {o : O} {xs : List D} (h : ∃ f, ORep K G H v o f) (hx : seqF o = some xs) : ∃ a vs, v = .ref a ∧ (SqL K H a vs ∨ SqT K H a vs) ∧ Reps K G vs xs := by
  unfold seqF at hx
  cases e1 : tupF o with
  | some ys =>
    rw [e1] at hx
    cases hx
    obtain ⟨a, vs, e2, sq, rp, _⟩ := tupF_of e h e1
    exact ⟨a, vs, e2, .inr sq, rp⟩
  | none =>
    rw [e1] at hx
    obtain ⟨a, vs, e2, sq, rp⟩ := lstF_of e h hx
    exact ⟨a, vs, e2, .inl sq, rp⟩
def mRv (f : List D → O) (m : ME) : ME := fun env => match m env with
  | .ok o e => match seqF o with
    | some xs => .ok (f xs.reverse) e
    | none => .fail
  | .exc x e => .exc x e
  | .fail => .fail
def mtupleRev (m : ME) : ME := mRv (fun xs => .d (.tup xs)) m
def mlistRev (m : ME) : ME := mRv (fun xs => .l (xs.map O.d)) m
theorem de_tupleRev {e : Expr} {m : ME} {p p2 pos pos2 : Pos} (h1 : X.mg "tuple" = none) (h2 : X.mg "reversed" = none) (h : DE X W np e m) (hc : X.calm = true := by rfl) (hg : Gl X "tuple" := by rfl) (hg2 : Gl X "reversed" := by rfl) (hs : starEach [e] X.env = (false, eval e X.env) :: starEach [] X.env := by rfl)
    (hs2 : starEach [.Call (.Name "reversed" p2) [e] [] pos2] X.env = (false, eval (.Call (.Name "reversed" p2) [e] [] pos2) X.env) :: starEach [] X.env := by rfl) : DE X W np (.Call (.Name "tuple" p) [.Call (.Name "reversed" p2) [e] [] pos2] [] pos) (mtupleRev m) := by
  obtain ⟨t, pe, s⟩ := h.ex
  refine ⟨_, pe_tupRv hc hg h1 hg2 h2 pe hs hs2, fun Γ σ env τ stk G H Q hp r h => s Γ σ env τ stk G H _ hp r ?_⟩
  unfold mtupleRev mRv at h
  cases q : m env with
  | ok o e =>
    simp only [q] at h
    intro v G' H' r'
    cases ea : seqF o with
    | none => simp only [ea] at h; exact False.elim h
    | some xs =>
      simp only [ea] at h
      obtain ⟨a, vs, e1, sq, rp⟩ := seqF_of r'.wd.sub r'.top ea
      exact ⟨a, vs, e1, sq, fun q hq => h _ _ _ (r'.pop.mkT rp.rev hq)⟩
  | exc x e =>
    simp only [q] at h
    exact h
  | fail =>
    simp only [q] at h
    exact h
theorem de_listRev {e : Expr} {m : ME} {p p2 pos pos2 : Pos} (h1 : X.mg "list" = none) (h2 : X.mg "reversed" = none) (h : DE X W np e m) (hc : X.calm = true := by rfl) (hg : Gl X "list" := by rfl) (hg2 : Gl X "reversed" := by rfl) (hs : starEach [e] X.env = (false, eval e X.env) :: starEach [] X.env := by rfl)
    (hs2 : starEach [.Call (.Name "reversed" p2) [e] [] pos2] X.env = (false, eval (.Call (.Name "reversed" p2) [e] [] pos2) X.env) :: starEach [] X.env := by rfl) : DE X W np (.Call (.Name "list" p) [.Call (.Name "reversed" p2) [e] [] pos2] [] pos) (mlistRev m) := by
  obtain ⟨t, pe, s⟩ := h.ex
  refine ⟨_, pe_lstRv hc hg h1 hg2 h2 pe hs hs2, fun Γ σ env τ stk G H Q hp r h => s Γ σ env τ stk G H _ hp r ?_⟩
  unfold mlistRev mRv at h
  cases q : m env with
  | ok o e =>
    simp only [q] at h
    intro v G' H' r'
    cases ea : seqF o with
    | none => simp only [ea] at h; exact False.elim h
    | some xs =>
      simp only [ea] at h
      obtain ⟨a, vs, e1, sq, rp⟩ := seqF_of r'.wd.sub r'.top ea
      exact ⟨a, vs, e1, sq, fun q hq => h _ _ _ (r'.pop.mkL rp.rev hq)⟩
  | exc x e =>
    simp only [q] at h
    exact h
  | fail =>
    simp only [q] at h
    exact h
end
end Dn
end
section
set_option Elab.async false
set_option linter.all false
set_option maxRecDepth 100000
set_option maxHeartbeats 4000000
/-! Dn20: sorted(x) of a list or a tuple of ints. -/
namespace Dn
open PySem PySem.Spec L2
open PyProof.Rows hiding St
section
variable {prog : Program} {w : World} {A : Around} {E : Value → Shared → Prop} {s : Shared}
theorem collect_tup {l : Addr} {vs : List Value} {Q : List Value → Shared → Prop} (hl : IsTup s.heap l vs.toArray)
    (h : Q vs { s with heap := (s.heap.push (seqObj "list" #[] 0)).update s.heap.objs.size (Obj.mapSeq (· ++ vs.toArray)) }) (hsz : vs.length ≤ sizeLine) :
    wpAny (model prog w) A (collect (.ref l)) Q E s := by
  obtain ⟨o, ho, hc, n, hd⟩ := id hl
  have hn : l ≠ s.heap.objs.size := Nat.ne_of_lt (Heap.lt_size ho)
  unfold collect
  refine wpAny_bind (wpAny_runValue (codeAny_builtin entry_proto_collect' ?_))
  show wpAny _ _ (do again (.builtin "list.__iadd__" ⟨[← newList [], .ref l], []⟩)) _ _ s
  refine wpAny_bind (wpAny_newList (wpAny_pure ⟨Code.quiet_builtin _ (by decide +kernel), codeAny_builtin entry_list_iadd' ?_⟩))
  show wpAny _ _ (Builtin.List.listExtendWith (.ref s.heap.objs.size) (.ref l) (.ref s.heap.objs.size)) _ _ { s with heap := s.heap.push (seqObj "list" #[] 0) }
  unfold Builtin.List.listExtendWith
  have ho' : (s.heap.push (seqObj "list" #[] 0)).get? l = some o := Heap.get?_push_of_some _ ho
  refine wpAny_bind (wpAny_typeOf (T := "tuple") ⟨o, ho', hc⟩ ?_)
  rw [if_pos (by simp)]
  refine wpAny_bind (listItems_at ho' hd ?_)
  refine wpAny_bind (listItems_at (xs := #[]) (n := 0) (Heap.get?_push_size _ rfl) rfl ?_)
  rw [if_neg (by simp)]
  refine wpAny_bind (listUpdate_at (xs := #[]) (n := 0) (Heap.get?_push_size _ rfl) rfl ?_ (Nat.zero_le _) (by
    have e : (#[] ++ vs.toArray : Array Value).size = vs.length := by simp
    refine Nat.le_trans (Nat.le_of_eq e) ?_
    exact Nat.le_succ_of_le hsz))
  refine wpAny_pure ?_
  show wpAny (model prog w) A (load s.heap.objs.size >>= fun o => match o.data with
      | .seq xs _ => pure xs.toList
      | _ => unsupported "internal:collect") Q E { s with heap := (s.heap.push (seqObj "list" #[] 0)).update s.heap.objs.size (Obj.mapSeq (· ++ vs.toArray)) }
  refine wpAny_bind (wpAny_load (get?_update_seq (Heap.get?_push_size _ rfl) _) ?_)
  show wpAny _ _ (pure ((#[] : Array Value) ++ vs.toArray).toList) Q E _
  have e : ((#[] : Array Value) ++ vs.toArray).toList = vs := by simp
  rw [e]
  exact wpAny_pure h
theorem sorted_ordT {l : Addr} {vs : List Value} {ltv : Value → Value → Bool} {Q : Value → Shared → Prop} (O : SrtO.Swo ltv) (hl : IsTup s.heap l vs.toArray) (hz : vs.length ≤ sizeLine)
    (hS : 2 ≤ vs.length → ∀ (h₁ : Heap) (a : Addr), SrtO.SortableO prog w A.in1.in1 { s with heap := h₁ } a vs ltv)
    (h : ∀ out : List Value, SrtO.Srtd ltv out → SrtO.Stb ltv out vs → Q (.ref (s.heap.objs.size + 1)) { s with heap := sortedAll s.heap vs out.toArray }) :
    wpAny (model prog w) A (call (.builtin "sorted") [.ref l]) Q E s := by
  refine Calls.call_function_entry kind_sorted plain_sorted entry_sorted (args_sorted1 _) ?_
  unfold Builtin.«sorted»
  refine wpAny_bind (m := checkCount "sorted" 1 1 _) (wpAny_pure ?_)
  refine wpAny_bind (collect_tup hl ?_ hz)
  refine wpAny_bind (wpAny_newList ?_ hz)
  have hsz : ((s.heap.push (seqObj "list" #[] 0)).update s.heap.objs.size (Obj.mapSeq (· ++ vs.toArray))).objs.size = s.heap.objs.size + 1 := by
    rw [Heap.size_update, size_push']
  have hoL : (((s.heap.push (seqObj "list" #[] 0)).update s.heap.objs.size (Obj.mapSeq (· ++ vs.toArray))).push (seqObj "list" vs.toArray 0)).get? (s.heap.objs.size + 1) = some (seqObj "list" vs.toArray 0) := by
    rw [← hsz]
    exact Heap.get?_push_size _ rfl
  show wpAny _ _ _ _ _ { s with heap := ((s.heap.push (seqObj "list" #[] 0)).update s.heap.objs.size (Obj.mapSeq (· ++ vs.toArray))).push (seqObj "list" vs.toArray 0) }
  rw [hsz]
  refine wpAny_bind (wpAny_holding (wpAny_call_entry slot_list_sort ⟨_, hoL, rfl⟩ entry_list_sort (SrtO.list_sort_ord O hoL hz (fun h2 => hS h2 _ _) fun out hs hb => ⟨_, rfl, ?_⟩) (args_list_sort _)))
  exact wpAny_pure ⟨_, rfl, h out hs hb⟩
end
/-- sorted(x), x a list or a tuple of ints -/
def rSortedA (K : PySem.W.Frag) : List V → Hp → VK → Prop := fun vs H Q => ∃ (a : Addr) (ns : List Int), vs = [V.ref a] ∧ (SqL K H a (ns.map V.int) ∨ SqT K H a (ns.map V.int)) ∧
  ∀ (ns' : List Int) (p : Addr), ns'.Perm ns → ns'.Pairwise (· ≤ ·) → H p = none → Q (.ref p) (upd H p (.lst (ns'.map V.int)))
theorem cr_sortedA {X : Cx} : CallR X (.builtin "sorted") (rSortedA X.K) := by
  intro pins s σ H vs us Q I r h
  obtain ⟨a, ns, rfl, hs, q⟩ := h
  rcases hs with hs | hs
  · exact cr_sortedI pins s σ H _ us Q I r ⟨a, ns, rfl, hs, q⟩
  · obtain ⟨its, rv, hl, hz⟩ := I.tuple hs
    rw [Vals.ref1 r]
    have hi := rv.ints
    refine sorted_ordT SrtO.swo_int hl (by rw [← rv.length]; exact hz) (fun h2 h₁ a' => SrtO.ints_sortable hi h2) fun out h1 h2 => ?_
    obtain ⟨k1, k2, k3⟩ := SrtO.ints_out hi h1 h2
    obtain ⟨ep, he'⟩ := PyProof.Rows.sortedAll_at s.heap its out.toArray
    have hlen : ((out.map SrtO.iv).map V.int).length ≤ sizeLine := by
      rw [List.length_map, k2.length_eq]
      rw [List.length_map] at hz
      exact hz
    exact ⟨.ref _, upd H (s.heap.objs.size + 1) (.lst ((out.map SrtO.iv).map V.int)), I.laid (t' := s.toks) (fun _ _ => PyProof.Rows.sortedAll_old) (Nat.le_succ _) ⟨hlen, out, ep, vals_of_ints k1, he'⟩, rfl, q _ _ k2 k3 (I.hok.fresh (Nat.le_succ _))⟩
/-! ### the one sorted row of ints -/
def insI (a : Int) : List Int → List Int
  | [] => [a]
  | b :: r => if a ≤ b then a :: b :: r else b :: insI a r
def sortI : List Int → List Int
  | [] => []
  | a :: r => insI a (sortI r)
theorem insI_perm (a : Int) : ∀ l : List Int, (insI a l).Perm (a :: l)
  | [] => .refl _
  | b :: r => by
    unfold insI
    split
    · exact .refl _
    · exact ((insI_perm a r).cons b).trans (.swap a b r)
theorem sortI_perm : ∀ l : List Int, (sortI l).Perm l
  | [] => .refl _
  | a :: r => (insI_perm a (sortI r)).trans ((sortI_perm r).cons a)
theorem insI_sorted (a : Int) : ∀ l : List Int, l.Pairwise (· ≤ ·) → (insI a l).Pairwise (· ≤ ·)
  | [], _ => by simp [insI]
  | b :: r, h => by
    unfold insI
    have h1 := List.pairwise_cons.mp h
    split
    · rename_i hab
      refine List.pairwise_cons.mpr ⟨fun x hx => ?_, h⟩
      rcases List.mem_cons.mp hx with e | hx
      · rw [e]
        exact hab
      · exact Int.le_trans hab (h1.1 x hx)
    · rename_i hab
      refine List.pairwise_cons.mpr ⟨fun x hx => ?_, insI_sorted a r h1.2⟩
      rcases List.mem_cons.mp ((insI_perm a r).mem_iff.mp hx) with e | hx
      · rw [e]
        omega
      · exact h1.1 x hx
theorem sortI_sorted : ∀ l : List Int, (sortI l).Pairwise (· ≤ ·)
  | [] => .nil
  | a :: r => insI_sorted a _ (sortI_sorted r)
theorem sorted_one : ∀ {l m : List Int}, l.Perm m → l.Pairwise (· ≤ ·) → m.Pairwise (· ≤ ·) → l = m
  | [], m, p, _, _ => by rw [p.nil_eq]
  | a :: l, m, p, h1, h2 => by
    cases m with
    | nil => exact absurd p.length_eq (by simp)
    | cons b m =>
      have g1 := List.pairwise_cons.mp h1
      have g2 := List.pairwise_cons.mp h2
      have e : a = b := by
        have a1 : a ∈ b :: m := p.mem_iff.mp List.mem_cons_self
        have b1 : b ∈ a :: l := p.mem_iff.mpr List.mem_cons_self
        rcases List.mem_cons.mp a1 with e | a1
        · exact e
        · rcases List.mem_cons.mp b1 with e | b1
          · exact e.symm
          · have c1 := g2.1 a a1
            have c2 := g1.1 b b1
            omega
      subst e
      rw [sorted_one ((List.perm_cons a).mp p) g1.2 g2.2]
def oSorted : List O → Option O := op1 fun a => ((seqF a).bind dInts).map fun ns => .l ((sortI ns).map fun i => O.d (.int i))
theorem s_sorted {K : PySem.W.Frag} : OpS K (rSortedA K) oSorted := ops1 fun Γ σ e τ stk G H v a o Q rr h ho k => by
  cases e1 : seqF a with
  | none => rw [e1] at ho; cases ho
  | some xs =>
    rw [e1] at ho
    replace ho : (dInts xs).map (fun ns => O.l ((sortI ns).map fun i => O.d (.int i))) = some o := ho
    cases e2 : dInts xs with
    | none => rw [e2] at ho; cases ho
    | some ns =>
      rw [e2] at ho
      cases ho
      obtain ⟨p, vs, rfl, sq, rp⟩ := seqF_of rr.wd.sub h e1
      obtain rfl := dInts_of rp e2
      refine ⟨p, ns, rfl, sq, fun ns' q hp hs hq => ?_⟩
      have e3 : ns' = sortI ns := sorted_one (hp.trans (sortI_perm ns).symm) hs (sortI_sorted ns)
      subst e3
      have ri : ∀ l : List Int, Reps K G (l.map V.int) (l.map D.int) := by
        intro l
        induction l with
        | nil => exact .nil
        | cons x r ih => exact .cons (.int _) ih
      have r2 := rr.mkL (ri (sortI ns)) hq
      rw [List.map_map] at r2
      exact k _ _ _ r2
end Dn
end
section
set_option Elab.async false
set_option linter.all false
set_option maxRecDepth 100000
set_option maxHeartbeats 4000000
/-! Dn21: while an exception is handled: calls, loops over tuples. -/
namespace Dn
open PySem PySem.Spec L2 L2H HotX
open PyProof.Rows hiding St
section
variable {prog : Program} {w : World} {A : Around} {E : Value → Shared → Prop} {s : Shared}
/-- a tuple's iterator ends while x1 is handled -/
theorem tup_end_hot {it t x1 : Addr} {i : Nat} {items : Array Value} {Q : Option Value → Shared → Prop} (hot : HotAt A x1 s.heap) (hne : x1 ≠ it) (hit : s.heap.IsTupleIter it t i) (ht : s.heap.IsTuple t items) (hx : items[i]? = none)
    (hQ : ∀ h', (∀ b o, b ≠ it → s.heap.get? b = some o → h'.get? b = some o) → Q none { s with heap := h' }) : wpAny (model prog w) A (pyNext (.ref it)) Q E s := by
  obtain ⟨o, ho, hc, hd⟩ := id hit
  obtain ⟨ol, hol, _, _, hdl⟩ := ht
  obtain ⟨hh, o1, vs1, h1, d1, c1⟩ := hot
  unfold pyNext
  refine wpAny_bind (wpAny_attempt (wpAny_callSpecial?_slot (name := Str.ofString "__next__") hit.typeIs F.slot_tuple_iterator_next (wpAny_call_entry F.slot_tuple_iterator_next hit.typeIs F.entry_tuple_iterator_next ?_ (F.args_tuple_iterator_next_1 _))))
  show wpAny _ _ (field (.ref it) 0 >>= _) _ _ s
  refine wpAny_bind (wpAny_field ho hd (x := .ref t) rfl ?_)
  show wpAny _ _ (if (Value.ref t == Value.none) = true then _ else _) _ _ s
  have nn : ¬ ((Value.ref t == Value.none) = true) := Bool.false_ne_true
  rw [if_neg nn]
  show wpAny _ _ (field (.ref it) 1 >>= _) _ _ s
  refine wpAny_bind (wpAny_field ho hd (x := .int i 0) rfl ?_)
  show wpAny _ _ (seqItems? (.ref t) >>= _) _ _ s
  refine wpAny_bind (wpAny_seqItems hol hdl ?_)
  simp only [Int.toNat_natCast, hx]
  refine wpAny_bind (wpAny_rule (wpAny_bind (wpAny_setField ho hd (by simp) ?_)))
  show wpAny _ _ (newExc (.type "StopIteration") [] >>= _) _ _ _
  refine wpAny_bind ?_
  simp only [newExc, newTuple]
  refine wpAny_bind (wpAny_newObj_type ?_ (by size_fits))
  have fm : firstArgMember (.type "StopIteration") [] = pure Value.none := by first | rfl | (simp only [firstArgMember]; rfl)
  refine wpAny_bind (m := firstArgMember _ _) (wpAny_of_eq (a := Value.none) fm ?_)
  refine wpAny_newObj_type ?_ (by size_fits)
  have h2 := (Heap.get?_update_other (h := s.heap) (Obj.mapFields (·.setIfInBounds 0 Value.none)) (Ne.symm hne)).trans h1
  refine raiseNew_hot ⟨hh, o1, vs1, Heap.get?_push_of_some _ (Heap.get?_push_of_some _ h2), d1, c1⟩ (Nat.ne_of_lt (Heap.lt_size (Heap.get?_push_of_some _ h2))) (Heap.get?_push_size _ rfl) rfl (by first | (simp; done) | (simp; omega)) ?_
  refine wpAny_bind (wpAny_isInstance (T := "StopIteration") (b := true) ⟨_, Heap.get?_update_self _ (Heap.get?_push_size _ rfl) rfl, rfl⟩ isSubtype_stop ?_)
  refine wpAny_pure (hQ _ fun b u hb e => ?_)
  have e2 := (Heap.get?_update_other (h := s.heap) (Obj.mapFields (·.setIfInBounds 0 Value.none)) (Ne.symm hb)).trans e
  rw [Heap.get?_update_other _ _ (Nat.ne_of_gt (Heap.lt_size (Heap.get?_push_of_some _ e2)))]
  exact Heap.get?_push_of_some _ (Heap.get?_push_of_some _ e2)
end
theorem turn_tupleH {P : Program} {w : World} {K : PySem.W.Frag} {tg : Expr} (a it : Addr) : TurnH P w K tg (Itt K a) [it] it (fun i h => h.IsTupleIter it a i) where
  mem := List.mem_singleton.mpr rfl
  obj := fun i h st b hb => by
    rw [List.mem_singleton.mp hb]
    obtain ⟨o, e, _, d⟩ := st
    exact ⟨o, e, fun v z => by rw [d] at z; cases z⟩
  keep := fun i h h' st k => st.at fun o e => k it (List.mem_singleton.mpr rfl) o e
  item := by
    intro X hP hw hK _ i pins s σ H E I hf st hg
    subst hP hw hK
    obtain ⟨xs, x, hq, hx⟩ := hg
    obtain ⟨its, rv, p, _⟩ := I.tuple hq
    obtain ⟨u, hu, ru⟩ := rv.get hx
    obtain ⟨f0, f1, _, f3, f4, f5⟩ := hf it (List.mem_singleton.mpr rfl)
    have pt : s.heap.IsTuple a its.toArray := p
    refine wpAny_pyNext_tuple_item st pt (x := u) (by simpa using hu) fun h' st' sb => ?_
    have I1 : Inv X pins σ H { s with heap := h', toks := s.toks } := I.turned (t' := s.toks) (fun b o hb e => (sb.2 b hb).trans e) f0 f1 f3 f4 f5
    obtain ⟨o, e, c, d⟩ := id st'
    refine ⟨u, rfl, go_of (s := { s with heap := h' }) e c d (by decide) ⟨x, H, I1, ru, ⟨rfl, fun ys hy => ?_⟩, st', fun b hb => (hf b hb).1⟩⟩
    rw [I.tuple_inj hy hq]
    exact hx
  done := by
    intro X hP hw hK hc i pins s σ H E I hf st hg
    subst hP hw hK
    obtain ⟨xs, hq, hx⟩ := hg
    obtain ⟨its, rv, p, _⟩ := I.tuple hq
    obtain ⟨f0, f1, _, f3, f4, f5⟩ := hf it (List.mem_singleton.mpr rfl)
    have hl := rv.length
    have pt : s.heap.IsTuple a its.toArray := p
    obtain ⟨q, ⟨hh, vs, hd, hv⟩, hm⟩ := hc
    have hp := I.pin q (List.mem_append_left _ hm)
    exact tup_end_hot ⟨hh, q.2, vs, hp.1, hd, hv⟩ (f5 q (List.mem_append_left _ hm)) st pt (by simp; omega) fun h' eb => ⟨rfl, I.turned (t' := s.toks) (fun b o hb e => eb b o hb e) f0 f1 f3 f4 f5⟩
  self := fun _ _ _ _ _ st h => wpAny_pyIter_tupleiter st h
section
variable {X : Cx} {W : WX} {np : Asm} {K : PySem.W.Frag} {mg : Str → Option Value}
theorem pi_tupH {tg l : Expr} {tl : TE} (hl : PE X l tl) : PIH X tg l (iTup X.K tl) := by
  refine ⟨fun pins s σ H R I h => thn (hl.run pins s σ H _ I h) fun v s1 got => ?_⟩
  obtain ⟨x, H1, I1, r1, a, e, ⟨xs, hq⟩, q⟩ := got
  subst e
  cases r1
  obtain ⟨its, _, p, _⟩ := I1.tuple hq
  have pt : s1.heap.IsTuple a its.toArray := p
  refine wpAny_pyIter_tuple pt ?_
  refine ⟨s1.heap.objs.size, [s1.heap.objs.size], _, _, H1, rfl, I1.kept (t' := s1.toks) fun b o e => Heap.get?_push_of_some _ e, turn_tupleH a _, ⟨_, Heap.get?_push_size _ rfl, rfl, rfl⟩, fun b hb => ?_, q⟩
  rw [List.mem_singleton.mp hb]
  exact I1.fpOk (Nat.le_refl _) (I1.hok.fresh (Nat.le_refl _))
structure DIH (X : Cx) (W : WX) (np : Asm) (tg it : Expr) (m : Env → Rs (List D)) : Prop where
  ex : ∃ t, PIH X tg it t ∧ ISnd X.K X.mg W np t m
theorem dih_tup {tg e : Expr} {m : ME} (h : DE X W np e m) : DIH X W np tg e (mIt itT m) := by
  obtain ⟨t, p, s⟩ := h.ex
  refine ⟨_, pi_tupH p, fun Γ σ env τ stk G H Q hp r h => s Γ σ env τ stk G H _ hp r ((mIt_q h).imp fun o e ⟨xs, e1, q⟩ v G' H' r' => ?_)⟩
  obtain ⟨G2, r2⟩ := r'.frz
  obtain ⟨a, vs, rfl, sq, rp⟩ := itT_of r2.topD e1
  exact ⟨a, rfl, ⟨vs, r2.wd.sub.sqT sq⟩, q _ G2 H' r2.pop (wk_at walk_tup rp rfl fun G H s1 s2 => s2.sqT (s1.sqT sq))⟩
theorem ds_forH {tg it : Expr} {body : List Stmt} {mi : Env → Rs (List D)} {g : MG} {mb : MS} {pos : Pos} (po : PassesOwn (model X.prog X.w) X.A X.env X.xe) (hot : HotC X) (hi : DIH X W np tg it mi) (hg : DG X np tg g) (hb : DSs X W np body mb) (hs : ∀ x, foldedSetIterable it X.env x = pure x := by intro _; rfl) : DS X W np (.For tg it body [] pos) (mFor mi g mb) := by
  obtain ⟨t, p, s⟩ := hi.ex
  obtain ⟨u, q, z⟩ := hg.ex
  obtain ⟨v, p', s'⟩ := hb.ex
  exact ⟨_, ps_forH po hot p q p' hs, ssnd_for s z s'⟩
theorem _root_.L2H.RoomH.units {k : Nat} {A : Around} (r : RoomH k A) : A.units + 64 < cLine := by
  have := r.un
  omega
theorem pvI {X : Cx} {sc : Scope} {N : List Str} {n : Str} {p : Pos} (i : Nat) (h1 : X.env.scope = sc) (h2 : X.N = N) (hN : N[i]? = some n) (hv : Vis sc n) (hd : (n == ("__debug__" : Str)) = false := by decide) (hcd : (n == ("__classdict__" : Str)) = false := by decide) : PE X (.Name n p) (tVar i) := by
  subst h1 h2
  exact pe_var hN hv hd hcd
/-- what is not reached -/
theorem de_never {e : Expr} : DE X W np e (fun _ => .fail) := ⟨fun _ _ _ => False, ⟨fun _ _ _ _ _ _ h => h.elim⟩, fun _ _ _ _ _ _ _ _ _ _ h => h.elim⟩
theorem ds_never {st : Stmt} : DS X W np st (fun _ => .fail) := ⟨fun _ _ _ => False, ⟨fun _ _ _ _ _ _ h => h.elim⟩, fun _ _ _ _ _ _ _ _ h => h.elim⟩
/-- the exception that a suite handles -/
theorem hot_suite {a : Addr} {oe : Obj} {pn : List (Addr × Obj)} {cls : Value} {d : Option Addr} (hz : L2N.Zn cls d oe) (hf : ∃ vs, oe.data = .fields vs) : HotC (X.suite a ((a, oe) :: pn)) := by
  obtain ⟨vs, e⟩ := hf
  exact ⟨(a, oe), ⟨rfl, vs, e, hz.2.2 vs e⟩, List.mem_cons_self⟩
/-- a def's promise while an exception is handled -/
theorem ok_defH {P : Program} {w : World} {base : Heap} {x qual : Str} {st : Stmt} {f : Addr} {fd : FuncData} {N ps : List Str} {k : Nat} {m : MS} (np : List Nat) (F : Fun K x qual st f fd) (S : FnScope N ps (defScope st))
    (hbody : ∀ (cdv : Value) (A : Around) (outer : List PySem.Env) (s : Shared) (H : Hp) (E : XK) (p : Addr × Obj), RoomH k (A.deeper (envOfC qual (defScope st) s.heap.objs.size f cdv)) → HotC (cxH (L2N.CX P w) P w K mg base N qual (defScope st) f cdv A outer s H E p) →
      DSs (cxH (L2N.CX P w) P w K mg base N qual (defScope st) f cdv A outer s H E p) (fun c d _ H => E c d H) (asm np) (defBody st) m) : FnH P w K mg base (L2N.CX P w) (k + 1) f fd ps (FP K mg ps.length (fnD np N.length m)) := by
  obtain ⟨_, _, _, _, _, _, v7, _, _, rfl, l, c⟩ := F.ex
  exact fn_ofH l c S (fun vs H Q E h => h.1) fun A outer s H vs Q E p hot hr h => def_core (hbody v7 A outer s H E p hr ⟨p, hot, List.mem_singleton.mpr rfl⟩) h
theorem de_callH {k n : Nat} {g : Addr} {fd : FuncData} {ps : List Str} {f : List O → FR} {x : Str} {e : Expr} {es : List Expr} {p pos : Pos} {ks : List AK} (F : FnH X.prog X.w X.K X.mg X.base (L2N.CX X.prog X.w) k g fd ps (FP X.K X.mg n f)) (hr : RoomH k X.A) (hot : HotC X) (hm : X.mg x = some (.ref g)) (hk : PySem.W.keepIn X.K (.ref g) = true) (hb : Binds X.K fd ps [])
    (tk : L2N.Takes X W) (ha : DA X W np (e :: es) ks) (hn : ks.length = n := by rfl) (hg : Gl X x := by rfl) (hdb : (x == ("__debug__" : Str)) = false := by decide) (he : starEach (e :: es) X.env = (false, eval e X.env) :: starEach es X.env := by rfl) (hpl : (backTo pos (starEach es X.env)).any (·.1) = false := by rfl) :
    DE X W np (.Call (.Name x p) (e :: es) [] pos) (mCall f ks) := by
  obtain ⟨t, q, s⟩ := ha.ex
  exact ⟨_, pe_callH F hr hot hg hm hk hb (fun σ => L2N.passAt tk σ) q hdb (by exact he) (by exact hpl), esnd_call hn s⟩
end
end Dn
end
section
set_option Elab.async false
set_option linter.all false
set_option maxRecDepth 100000
set_option maxHeartbeats 4000000
/-! Dn22: the law's head. -/
namespace Dn
open PySem PySem.Spec L2 L2H
open PyProof.Rows hiding St
theorem kwb_of {K : PySem.W.Frag} {x qual : Str} {st : Stmt} {f : Addr} {fd : FuncData} {ps : List Str} (F : Fun K x qual st f fd)
    (h : ∀ (kV doc pm : Value) (an : Option Addr) (cdv ct : Value) (us : List Value), us.length = ps.length → bindArgs (PySem.W.fnOf x qual (defArgs st) (defBody st) (defScope st) .none kV doc pm an cdv ct) ⟨[], ps.zip us⟩ = pure (ps.zip us)) : KwB K fd ps := by
  obtain ⟨_, _, a, b, c, d, e, g, _, rfl, _, _⟩ := F.ex
  exact ⟨fun s ws _ hl => .of_eq (h a b c d e g ws hl)⟩
/-- law's promise: a list of at most 63 ints is handed in, True comes out -/
def spLaw (K : PySem.W.Frag) : Sp := fun vs H Q _ => ∃ (a : Addr) (ns : List Int), vs = [.ref a] ∧ SqL K H a (ns.map V.int) ∧ ns.length ≤ 63 ∧ ∀ H', Q (.bl true) H'
theorem law_imp {K : PySem.W.Frag} {mg : Str → Option Value} {f : List O → FR} (plain : ∀ ns : List Int, ns.length ≤ 63 → ∃ as, f [.d (.scr (ns.map D.int))] = .ok (.d (.bl true)) as) : ∀ vs H Q E, spLaw K vs H Q E → FP K mg 1 f vs H Q E := by
  rintro vs H Q E ⟨a, ns, rfl, sq, hl, q⟩
  obtain ⟨as, e⟩ := plain ns hl
  have ri : ∀ l : List Int, Reps K H (l.map V.int) (l.map D.int) := by
    intro l
    induction l with
    | nil => exact .nil
    | cons x r ih => exact .cons (.int _) ih
  refine ⟨rfl, [.d (.scr (ns.map D.int))], [], H, Sub.refl H, ?_, List.nodup_nil, ?_⟩
  · exact .cons (f := []) (.d (.scr sq (ri ns))) .nil
  · rw [e]
    intro v G' H' r
    cases r.topD
    exact q H'
/-- a class of exceptions as the top writes it -/
def clsX (K : PySem.W.Frag) (C : Addr) : Bool := match K.lookup C with
  | some ⟨.type "type", _, .cls cd, sl⟩ => (match cd.mro, sl.toList with
    | .ref D :: bm, [_, _, _, _, some (.builtin n), _] => decide (D = C) && (decide (n = "ValueError.__new__") && (cd.hasDict && (!cd.hasDel && PySem.HandSPX.refsVE bm)))
    | _, _ => false)
  | _ => false
theorem oexC_of {K : PySem.W.Frag} {C : Addr} (h : clsX K C = true) (h1 : PySem.W.findIn K (.ref C) "__setattr__" = some (some (.builtin "object.__setattr__"))) (h2 : PySem.W.subIn K (.ref C) (.type "BaseException") = some true) (h3 : PySem.W.typeIn K (.ref C) = some (.type "type")) (h4 : PySem.W.keepIn K (.ref C) = true) : OexC K C := by
  refine ⟨?_, h1, h2, h3, h4⟩
  unfold clsX at h
  split at h
  · rename_i dd cd sl e
    split at h
    · rename_i D bm k0 k1 k2 k3 n k5 em es
      obtain ⟨x1, h⟩ := Bool.and_eq_true_iff.mp h
      obtain ⟨x2, h⟩ := Bool.and_eq_true_iff.mp h
      obtain ⟨x3, h⟩ := Bool.and_eq_true_iff.mp h
      obtain ⟨x4, x5⟩ := Bool.and_eq_true_iff.mp h
      obtain rfl := of_decide_eq_true x1
      obtain rfl := of_decide_eq_true x2
      obtain ⟨nm, bs, mro, ns, qn, hd, sn, sb, ab, col, del⟩ := cd
      dsimp only at em x3 x4
      subst em x3
      have x6 : del = false := by simpa using x4
      subst x6
      have e5 : sl = #[k0, k1, k2, k3, some (.builtin "ValueError.__new__"), k5] := by
        rw [← Array.toArray_toList (xs := sl), es]
      subst e5
      exact ⟨nm, qn, ns, bs, bm, sn, sb, ab, col, dd, k0, k1, k2, k3, k5, e, x5⟩
    · cases h
  · cases h
theorem cxN_no {P : Program} {w : World} {outer : List PySem.Env} {H : Hp} {s : Shared} {e : Value} {s' : Shared} (h : L2N.CX P w outer H s (fun _ _ _ => False) e s') : False := by
  obtain ⟨_, _, _, _, _, _, _, _, _, _, _, _, z⟩ := h
  exact z
end Dn
end
section
set_option Elab.async false
set_option linter.all false
set_option maxRecDepth 100000
set_option maxHeartbeats 4000000
/-! Dn23: min, max, index of a tuple of ints; one of two readings. -/
namespace Dn
open PySem PySem.Spec L2 L2H
open PyProof.Rows hiding St
section
variable {X : Cx} {W : WX} {np : Asm} {K : PySem.W.Frag} {mg : Str → Option Value}
/-- the first reading that does not fail -/
def mAlt (m1 m2 : ME) : ME := fun env => match m1 env with
  | .fail => m2 env
  | r => r
theorem de_alt {e : Expr} {m1 m2 : ME} (h1 : DE X W np e m1) (h2 : DE X W np e m2) : DE X W np e (mAlt m1 m2) := by
  obtain ⟨t1, p1, s1⟩ := h1.ex
  obtain ⟨t2, p2, s2⟩ := h2.ex
  refine ⟨fun σ H Q => t1 σ H Q ∨ t2 σ H Q, ⟨fun pins s σ H Q I h => ?_⟩, fun Γ σ env τ stk G H Q hp r h => ?_⟩
  · rcases h with h | h
    · exact p1.run pins s σ H Q I h
    · exact p2.run pins s σ H Q I h
  · unfold mAlt at h
    cases q : m1 env with
    | ok o e =>
      simp only [q] at h
      exact .inl (s1 Γ σ env τ stk G H Q hp r (by rw [q]; exact h))
    | exc x e =>
      simp only [q] at h
      exact .inl (s1 Γ σ env τ stk G H Q hp r (by rw [q]; exact h))
    | fail =>
      simp only [q] at h
      exact .inr (s2 Γ σ env τ stk G H Q hp r h)
end
section
variable {prog : Program} {w : World} {A : Around} {E : Value → Shared → Prop} {s : Shared} {l : Addr} {its : List Value} {ns : List Int} {Q : Value → Shared → Prop}
theorem min_tup (hh : A.handled = none) (hl : IsTup s.heap l its.toArray) (hi : IntsAre its ns) (hne : 0 < ns.length)
    (h : ∀ h' tk M t', (∀ b o, s.heap.get? b = some o → h'.get? b = some o) → M ∈ ns → (∀ a, a ∈ ns → M ≤ a) → Q (.int M t') { s with heap := h', toks := tk }) : wpAny (model prog w) A (call (.builtin "min") [.ref l]) Q E s := by
  obtain ⟨xs, e⟩ := hi.allInts.items
  have hn : numsOf (intItems xs).toList = ns := by rw [← e]; exact hi.numsOf
  rw [nums_intItems] at hn
  subst hn
  rw [e] at hl
  have pt : s.heap.IsTuple l (intItems xs) := hl
  obtain ⟨o, ho, _⟩ := id pt
  have lt := Heap.lt_size ho
  have hsz : 0 < xs.size := by simpa using hne
  refine call_min_walk (wpAny_pyIter_tuple pt ⟨_, _, _, _, _, _, _, rfl, Walks.tuple (A := A.in1) hh _ l (Nat.ne_of_lt lt) (intItems xs), ⟨⟨_, Heap.get?_push_size _ rfl, rfl, rfl⟩, pt.push _⟩, fun b hb => ?_, by simpa [intItems] using hsz, CmpOf.ints_lt (numAt xs) (fun _ _ => intItems_at), fun v h' tk hP hk => ?_⟩)
  · show b < (s.heap.push _).objs.size
    rw [Heap.size_push]
    rcases List.mem_cons.mp hb with rfl | hb
    · exact Nat.lt_succ_self _
    · rw [List.mem_singleton.mp hb]
      exact Nat.lt_succ_of_lt lt
  · have hv : (intItems xs)[argBest (fun i j => decide (numAt xs i < numAt xs j)) (xs.size - 1)]? = some v := by simpa [intItems] using hP
    obtain ⟨t, rfl⟩ := intItems_at hv
    obtain ⟨h1, h2⟩ := argBest_lt (numAt xs) (xs.size - 1)
    refine h h' tk _ t (fun b u q => hk b u (fun hm => ?_) (Heap.get?_push_of_some _ q)) ?_ fun a ha => ?_
    · rw [List.mem_singleton.mp hm] at q
      exact absurd (Heap.lt_size q) (Nat.lt_irrefl _)
    · rw [numAt_eq]
      exact PySem.getD_mem (by rw [List.length_map, Array.length_toList]; omega)
    · obtain ⟨j, hj, rfl⟩ := mem_getD ha
      rw [List.length_map, Array.length_toList] at hj
      rw [← numAt_eq]
      exact h2 j (by omega)
theorem max_tup (hh : A.handled = none) (hl : IsTup s.heap l its.toArray) (hi : IntsAre its ns) (hne : 0 < ns.length)
    (h : ∀ h' tk M t', (∀ b o, s.heap.get? b = some o → h'.get? b = some o) → M ∈ ns → (∀ a, a ∈ ns → a ≤ M) → Q (.int M t') { s with heap := h', toks := tk }) : wpAny (model prog w) A (call (.builtin "max") [.ref l]) Q E s := by
  obtain ⟨xs, e⟩ := hi.allInts.items
  have hn : numsOf (intItems xs).toList = ns := by rw [← e]; exact hi.numsOf
  rw [nums_intItems] at hn
  subst hn
  rw [e] at hl
  have pt : s.heap.IsTuple l (intItems xs) := hl
  obtain ⟨o, ho, _⟩ := id pt
  have lt := Heap.lt_size ho
  have hsz : 0 < xs.size := by simpa using hne
  refine call_max_walk (wpAny_pyIter_tuple pt ⟨_, _, _, _, _, _, _, rfl, Walks.tuple (A := A.in1) hh _ l (Nat.ne_of_lt lt) (intItems xs), ⟨⟨_, Heap.get?_push_size _ rfl, rfl, rfl⟩, pt.push _⟩, fun b hb => ?_, by simpa [intItems] using hsz, CmpOf.ints_gt (numAt xs) (fun _ _ => intItems_at), fun v h' tk hP hk => ?_⟩)
  · show b < (s.heap.push _).objs.size
    rw [Heap.size_push]
    rcases List.mem_cons.mp hb with rfl | hb
    · exact Nat.lt_succ_self _
    · rw [List.mem_singleton.mp hb]
      exact Nat.lt_succ_of_lt lt
  · have hv : (intItems xs)[argBest (fun i j => decide (numAt xs i > numAt xs j)) (xs.size - 1)]? = some v := by simpa [intItems] using hP
    obtain ⟨t, rfl⟩ := intItems_at hv
    obtain ⟨h1, h2⟩ := argBest_gt (numAt xs) (xs.size - 1)
    refine h h' tk _ t (fun b u q => hk b u (fun hm => ?_) (Heap.get?_push_of_some _ q)) ?_ fun a ha => ?_
    · rw [List.mem_singleton.mp hm] at q
      exact absurd (Heap.lt_size q) (Nat.lt_irrefl _)
    · rw [numAt_eq]
      exact PySem.getD_mem (by rw [List.length_map, Array.length_toList]; omega)
    · obtain ⟨j, hj, rfl⟩ := mem_getD ha
      rw [List.length_map, Array.length_toList] at hj
      rw [← numAt_eq]
      exact h2 j (by omega)
end
section
variable {X : Cx} {K : PySem.W.Frag}
def rMinA (K : PySem.W.Frag) : List V → Hp → VK → Prop := fun vs H Q => ∃ (a : Addr) (ns : List Int), vs = [V.ref a] ∧ (SqL K H a (ns.map V.int) ∨ SqT K H a (ns.map V.int)) ∧ 0 < ns.length ∧ ∀ m, m ∈ ns → (∀ y, y ∈ ns → m ≤ y) → Q (.int m) H
def rMaxA (K : PySem.W.Frag) : List V → Hp → VK → Prop := fun vs H Q => ∃ (a : Addr) (ns : List Int), vs = [V.ref a] ∧ (SqL K H a (ns.map V.int) ∨ SqT K H a (ns.map V.int)) ∧ 0 < ns.length ∧ ∀ m, m ∈ ns → (∀ y, y ∈ ns → y ≤ m) → Q (.int m) H
theorem cr_minA (hc : X.calm = true) : CallR X (.builtin "min") (rMinA X.K) := by
  intro pins s σ H vs us Q I r h
  obtain ⟨a, ns, rfl, hs, hne, q⟩ := h
  rcases hs with hs | hs
  · exact cr_min hc pins s σ H _ us Q I r ⟨a, ns, rfl, hs, hne, q⟩
  · obtain ⟨its, rv, hl, _⟩ := I.tuple hs
    rw [Vals.ref1 r]
    exact min_tup (I.ok.hd hc) hl rv.ints hne fun h' tk m t' hk h1 h2 => ⟨.int m, H, I.kept hk, ⟨t', rfl⟩, q m h1 h2⟩
theorem cr_maxA (hc : X.calm = true) : CallR X (.builtin "max") (rMaxA X.K) := by
  intro pins s σ H vs us Q I r h
  obtain ⟨a, ns, rfl, hs, hne, q⟩ := h
  rcases hs with hs | hs
  · exact cr_max hc pins s σ H _ us Q I r ⟨a, ns, rfl, hs, hne, q⟩
  · obtain ⟨its, rv, hl, _⟩ := I.tuple hs
    rw [Vals.ref1 r]
    exact max_tup (I.ok.hd hc) hl rv.ints hne fun h' tk m t' hk h1 h2 => ⟨.int m, H, I.kept hk, ⟨t', rfl⟩, q m h1 h2⟩
def oMinA : List O → Option O := op1 fun a => ((seqF a).bind dInts).bind fun ns => (fMin ns).map O.d
def oMaxA : List O → Option O := op1 fun a => ((seqF a).bind dInts).bind fun ns => (fMax ns).map O.d
theorem s_minA : OpS K (rMinA K) oMinA := ops1 fun Γ σ e τ stk G H v a o Q rr h ho k => by
  cases e1 : seqF a with
  | none => simp [e1] at ho
  | some xs =>
    cases e2 : dInts xs with
    | none => simp [e1, e2] at ho
    | some ns =>
      cases ns with
      | nil => simp [e1, e2, fMin] at ho
      | cons m r =>
        simp [e1, e2, fMin] at ho
        subst ho
        obtain ⟨p, vs, rfl, sq, rp⟩ := seqF_of rr.wd.sub h e1
        obtain rfl := dInts_of rp e2
        refine ⟨p, m :: r, rfl, sq, Nat.zero_lt_succ _, fun z h1 h2 => ?_⟩
        obtain ⟨g1, g2, g3⟩ := minI_spec r m
        have gm : minI m r ∈ m :: r := g1.elim (fun e => by rw [e]; exact List.mem_cons_self) (List.mem_cons_of_mem _)
        have a1 := h2 _ gm
        have a2 : minI m r ≤ z := by
          rcases List.mem_cons.mp h1 with e | h1
          · rw [e]
            exact g2
          · exact g3 z h1
        have e3 : z = minI m r := Int.le_antisymm a1 a2
        rw [e3]
        exact k _ G H (rr.pushD (.int _))
theorem s_maxA : OpS K (rMaxA K) oMaxA := ops1 fun Γ σ e τ stk G H v a o Q rr h ho k => by
  cases e1 : seqF a with
  | none => simp [e1] at ho
  | some xs =>
    cases e2 : dInts xs with
    | none => simp [e1, e2] at ho
    | some ns =>
      cases ns with
      | nil => simp [e1, e2, fMax] at ho
      | cons m r =>
        simp [e1, e2, fMax] at ho
        subst ho
        obtain ⟨p, vs, rfl, sq, rp⟩ := seqF_of rr.wd.sub h e1
        obtain rfl := dInts_of rp e2
        refine ⟨p, m :: r, rfl, sq, Nat.zero_lt_succ _, fun z h1 h2 => ?_⟩
        obtain ⟨g1, g2, g3⟩ := maxI_spec r m
        have gm : maxI m r ∈ m :: r := g1.elim (fun e => by rw [e]; exact List.mem_cons_self) (List.mem_cons_of_mem _)
        have a1 := h2 _ gm
        have a2 : z ≤ maxI m r := by
          rcases List.mem_cons.mp h1 with e | h1
          · rw [e]
            exact g2
          · exact g3 z h1
        have e3 : z = maxI m r := Int.le_antisymm a2 a1
        rw [e3]
        exact k _ G H (rr.pushD (.int _))
theorem flat_ints (ns : List Int) : (ns.map V.int).all flatV = true := by
  rw [List.all_map]
  exact List.all_eq_true.mpr fun _ _ => rfl
def rTIdx (K : PySem.W.Frag) : V → List V → Hp → VK → Prop := fun x xs H Q => ∃ (p : Addr) (ns : List Int) (z : Int) (j : Nat), x = .ref p ∧ xs = [.int z] ∧ SqT K H p (ns.map V.int) ∧ ns[j]? = some z ∧ (∀ m, m < j → ns[m]? ≠ some z) ∧ Q (.int (j : Nat)) H
theorem mt_tidx : MtR X "tuple.index" (rTIdx X.K) := by
  intro pins s σ H x xs v us Q I rx rs h
  obtain ⟨p, ns, z, j, rfl, rfl, hq, hy, hno, q⟩ := h
  cases rx
  obtain ⟨_, rfl, t, rfl⟩ := vals1 rs
  obtain ⟨its, r, pl, _⟩ := I.tuple hq
  obtain ⟨⟨cls, dd, dt, sl⟩, ho, hc, n, hd⟩ := pl
  obtain rfl := hc
  obtain rfl := hd
  have hl : its.toArray.size = ns.length := by
    rw [List.size_toArray, ← r.length, List.length_map]
  have hj : j < its.toArray.size := by
    rw [hl]
    exact (List.getElem?_eq_some_iff.mp hy).1
  have val : ∀ (m : Nat) (hm : m < its.toArray.size), ∃ y u, ns[m]? = some y ∧ its.toArray[m] = Value.int y u := fun m hm => by
    have hm2 : m < ns.length := by omega
    obtain ⟨w, hw, u, e⟩ := r.get (i := m) (x := .int ns[m]) (by simp [hm2])
    refine ⟨ns[m], u, List.getElem?_eq_getElem hm2, ?_⟩
    have e2 := (List.getElem?_eq_some_iff.mp hw).2
    rw [← e, ← e2]
    simp
  have look := TI.tuple_indexAt p its.toArray n dd sl (.int z t) (eqU (.int z)) j hj (by
    obtain ⟨y, u, h1, h2⟩ := val j hj
    rw [hy] at h1
    cases h1
    rw [h2]
    exact beq_self_eq_true z) (fun m hm hmj => by
    obtain ⟨y, u, h1, h2⟩ := val m hm
    rw [h2]
    exact beq_eq_false_iff_ne.mpr fun e => hno m hmj (e ▸ h1))
  exact call_meets PySem.F.slot_tuple_index ⟨_, ho, rfl⟩ PySem.F.entry_tuple_index (PySem.F.args_tuple_index_2 _ _) look ⟨ho, fun w hw => mem_eqAt (x := .int z) ⟨t, rfl⟩ rfl r (flat_ints ns) w (by simpa using hw), ⟨.int (j : Nat), H, I.tok _, ⟨_, rfl⟩, q⟩⟩
def oTIdx : List O → Option O
  | [a, b] => match (tupF a).bind dInts, asI b with
    | some ns, some x => (findI x ns 0).map fun n => .d (.int n)
    | _, _ => none
  | _ => none
theorem s_tidx : LookS K (rTIdx K) oTIdx := by
  intro Γ σ e τ stk G H v o vs os z Q rr hv ha hf k
  match ha with
  | .nil => cases hf
  | .cons _ (.cons _ _) => cases hf
  | @OAll.cons _ _ _ w b _ _ hb .nil =>
    cases e1 : tupF o with
    | none => simp [oTIdx, e1] at hf
    | some xs =>
      cases e2 : dInts xs with
      | none => simp [oTIdx, e1, e2] at hf
      | some ns =>
        cases e3 : asI b with
        | none => simp [oTIdx, e1, e2, e3] at hf
        | some x =>
          cases e4 : findI x ns 0 with
          | none => simp [oTIdx, e1, e2, e3, e4] at hf
          | some n =>
            simp [oTIdx, e1, e2, e3, e4] at hf
            subst hf
            obtain rfl := orep_int hb e3
            obtain ⟨a, ws, rfl, sq, rp, _⟩ := tupF_of rr.wd.sub hv e1
            obtain rfl := dInts_of rp e2
            obtain ⟨h1, h2, h3⟩ := findI_spec e4
            rw [Nat.sub_zero] at h2 h3
            refine ⟨a, ns, x, n, rfl, rfl, sq, h2, fun m hm hz => ?_, k _ G H (rr.pushD (.int _))⟩
            obtain ⟨y, hy, hne⟩ := h3 m hm
            rw [hy] at hz
            cases hz
            exact hne rfl
end
end Dn
end
section
set_option Elab.async false
set_option linter.all false
set_option maxRecDepth 100000
set_option maxHeartbeats 4000000
/-! Dn24: tuple(list) of which it is known that it has no dict; what a call hands back is made plain. -/
namespace Dn
open PySem PySem.Spec L2 L2H
open PyProof.Rows hiding St
section
variable {X : Cx} {W : WX} {np : Asm} {K : PySem.W.Frag} {mg : Str → Option Value}
def rTupN (K : PySem.W.Frag) : List V → Hp → VK → Prop := fun xs H Q => ∃ (p : Addr) (ys : List V), xs = [.ref p] ∧ SqL K H p ys ∧ ∀ (l : Addr) (ob : Obj), H l = none → ob.dict = none → Q (.ref l) (upd H l (.frz ob (.tup ys)))
theorem cr_tupN : CallR X (.type "tuple") (rTupN X.K) := by
  intro pins s σ H xs us Q I r h
  obtain ⟨p, ys, rfl, hq, q⟩ := h
  obtain ⟨u, rfl, rx⟩ := vals1 r
  cases rx
  obtain ⟨its, r', pl, hz⟩ := I.list hq
  have hlen := r'.length
  refine call_tuple_list pl.isList (fun h' kp => ?_) (by simp only [List.size_toArray] <;> omega)
  have I1 : Inv X pins σ H { s with heap := h' } := I.kept (t' := s.toks) kp
  have I2 : Inv X pins σ (upd H h'.objs.size (.frz { cls := .type "tuple", data := .seq its.toArray } (.tup ys))) { s with heap := h'.push { cls := .type "tuple", data := .seq its.toArray } } :=
    I1.laid (t' := s.toks) (fun b o e => Heap.get?_push_of_some _ e) (Nat.le_refl _) (show ObjOk X.prog X.w _ _ _ (.frz { cls := .type "tuple", data := .seq its.toArray } (.tup ys)) from ⟨Heap.get?_push_size _ rfl, hz, its, r', IsTup.new _ _⟩)
  exact ⟨.ref h'.objs.size, _, I2, rfl, q _ _ (I1.hok.fresh (Nat.le_refl _)) rfl⟩
def toTupN (a : O) : Option O := (lstF a).map O.t
theorem s_tupN : OpS K (rTupN K) (op1 toTupN) := ops1 fun Γ σ e τ stk G H v a o Q rr h ho k => by
  unfold toTupN at ho
  cases e2 : lstF a with
  | none => rw [e2] at ho; cases ho
  | some xs =>
    rw [e2] at ho
    cases ho
    obtain ⟨p, vs, rfl, sq, rp⟩ := lstF_of rr.wd.sub h e2
    refine ⟨p, vs, rfl, sq, fun l ob hl hd => k _ (upd G l (.frz ob (.tup vs))) _ ?_⟩
    obtain ⟨r1, sg⟩ := rr.newG (o := .frz ob (.tup vs)) hl
    obtain ⟨f1, f2, c, s, n, m⟩ := r1.ex
    exact ⟨r1.wd, r1.pin, f1, [] ++ f2, c, .cons (.t upd_same hd (rp.mono sg)) s, by simpa using n, by simpa using m⟩
/-- what is known of a tuple beyond its items is forgotten -/
def dnO : O → O
  | .t xs => .d (.tup xs)
  | o => o
def mDn (m : ME) : ME := fun env => match m env with
  | .ok o e => .ok (dnO o) e
  | r => r
theorem R.dn {Γ : Ctx} {σ : L2.St} {env : Env} {τ : List (Option V)} {stk : Env} {G H : Hp} {v : V} {o : O} (r : R K Γ σ env (some v :: τ) (some o :: stk) G H) : R K Γ σ env (some v :: τ) (some (dnO o) :: stk) G H := by
  cases o with
  | d x => exact r
  | l os => exact r
  | t xs =>
    obtain ⟨f1, f2, c, s, n, m⟩ := r.ex
    cases s with
    | cons q s =>
      cases q with
      | t h g rp => exact ⟨r.wd, r.pin, f1, _, c, .cons (.d (.tup (.inl (.inr ⟨_, h⟩)) rp)) s, n, m⟩
theorem de_dn {e : Expr} {m : ME} (h : DE X W np e m) : DE X W np e (mDn m) := by
  obtain ⟨t, p, s⟩ := h.ex
  refine ⟨t, p, fun Γ σ env τ stk G H Q hp r h => s Γ σ env τ stk G H Q hp r ?_⟩
  unfold mDn at h
  cases q : m env with
  | ok o e =>
    simp only [q] at h
    exact fun v G' H' r' => h v G' H' r'.dn
  | exc x e =>
    simp only [q] at h
    exact h
  | fail =>
    simp only [q] at h
    exact h
end
end Dn
end
section
set_option Elab.async false
set_option linter.all false
set_option maxRecDepth 100000
set_option maxHeartbeats 4000000
/-! Dn26: name op= e over ints; keywords in any order. -/
namespace Dn
open PySem PySem.Spec L2 L2H
open PyProof.Rows hiding St
section
variable {X : Cx} {W : WX} {np : Asm} {K : PySem.W.Frag} {mg : Str → Option Value}
theorem iop_mulA {X : Cx} : OpR X (inplaceOp .Mult) (rI CMulA fun i j => .int (i * j)) := opI fun _ _ _ _ _ _ _ hc q => imul_int q (hc.elim CMulW.ok CMul.ok)
/-- name op= e, the name holds an int -/
def mAug (i : Nat) (f : List O → Option O) (m : ME) : MS := fun env => match env[i]? with
  | some (some (.d (.int a))) => onE (m env) fun o e => match f [.d (.int a), o] with
    | some z => putE i z e
    | none => .fail
  | _ => .fail
theorem ds_aug {i : Nat} {x : Str} {op : Operator} {r : R2} {f : List O → Option O} {e : Expr} {m : ME} {pos pos' : Pos} (hN : X.N.Nodup) (ho : OpR X (inplaceOp op) r) (hs : OpS X.K (r2 r) f) (h : DE X W np e m) (hi : i ∉ np.np := by decide) (hx : X.N[i]? = some x := by rfl) (hl : Loc X.env.scope x := by first | exact Or.inl rfl | exact Or.inr rfl) (hf : X.fn x = true ∨ X.env.scope.names.lookup x = some .local := by first | exact .inl rfl | exact .inr rfl) :
    DS X W np (.AugAssign (.Name x pos') op e pos) (mAug i f m) := by
  obtain ⟨t, p, s⟩ := h.ex
  refine ⟨_, ps_aug hN hx hl p (ti := r) (fun pins s σ H x y v u Q I rx ry q => ho pins s σ H x y v u Q I rx ry q) hf, fun Γ σ env G H D hp rr h => ?_⟩
  unfold mAug at h
  split at h
  · rename_i a ha
    obtain ⟨v, e1, rv⟩ := rr.slotD ha
    cases rv
    refine ⟨.int a, e1, s Γ σ env [] [] G H _ hp rr ((onE_q h).imp fun o e q w G' H' r' => ?_)⟩
    cases e3 : f [.d (.int a), o] with
    | none => simp only [e3] at q; exact False.elim q
    | some z =>
      simp only [e3] at q
      obtain ⟨g, ot⟩ := r'.top
      refine hs Γ σ e _ _ G' H' [.int a, w] [.d (.int a), o] z _ r' (.cons ⟨[], .d (.int a)⟩ (.cons ⟨g, ot⟩ .nil)) e3 fun z' G2 H2 r2 => ?_
      have r3 : R X.K Γ σ e ([some w] ++ some z' :: []) ([some o] ++ some z :: []) G2 H2 := R.unrot (vs := [some w]) (os := [some o]) r2 rfl
      have r4 : R X.K Γ σ e (some z' :: []) (some z :: []) G2 H2 := R.pop1 r3
      unfold putE at q
      split at q
      · rename_i hlt
        have pn : Γ.pin i = none := by
          cases e : Γ.pin i with
          | none => rfl
          | some v => exact absurd (hp.1 i v e) hi
        exact q _ G2 H2 (r4.store hlt pn)
      · exact False.elim q
  · exact False.elim h
/-- what an expression comes to stays from now on -/
def mFz (m : ME) : ME := fun env => match m env with
  | .ok o e => .ok (.d (frz o)) e
  | r => r
theorem de_fz {e : Expr} {m : ME} (h : DE X W np e m) : DE X W np e (mFz m) := by
  obtain ⟨t, p, s⟩ := h.ex
  refine ⟨t, p, fun Γ σ env τ stk G H Q hp r h => s Γ σ env τ stk G H Q hp r ?_⟩
  unfold mFz at h
  cases q : m env with
  | ok o e =>
    simp only [q] at h
    intro v G' H' r'
    obtain ⟨G2, r2⟩ := r'.frz
    exact h v G2 H' r2
  | exc x e =>
    simp only [q] at h
    exact h
  | fail =>
    simp only [q] at h
    exact h
/-! ### keywords in any order -/
def perm {α : Type} (π : List Nat) (xs : List α) : List α := π.filterMap fun j => xs[j]?
theorem vals_perm {zs : List V} {ws : List Value} (r : Vals zs ws) : ∀ π : List Nat, Vals (perm π zs) (perm π ws)
  | [] => .nil
  | j :: π => by
    have ih := vals_perm r π
    unfold perm at ih ⊢
    rw [List.filterMap_cons, List.filterMap_cons]
    cases e : zs[j]? with
    | none => rw [r.none_of e]; exact ih
    | some z =>
      obtain ⟨w, e2, q⟩ := r.get e
      rw [e2]
      exact .cons q ih
/-- the keywords ns, the parameters ps: the one of parameter k stands at place π k -/
structure KwP (K : PySem.W.Frag) (fd : FuncData) (ps ns : List Str) (π : List Nat) : Prop where
  to : ∀ (s : Shared) (ws : List Value), K.In s.heap → ws.length = ns.length → BindsTo s fd ⟨[], ns.zip ws⟩ (ps.zip (perm π ws))
  len : π.length = ps.length
  len2 : ns.length = ps.length
theorem kwp_of {K : PySem.W.Frag} {x qual : Str} {st : Stmt} {f : Addr} {fd : FuncData} {ps ns : List Str} {π : List Nat} (F : Fun K x qual st f fd)
    (h : ∀ (kV doc pm : Value) (an : Option Addr) (cdv ct : Value) (us : List Value), us.length = ns.length → bindArgs (PySem.W.fnOf x qual (defArgs st) (defBody st) (defScope st) .none kV doc pm an cdv ct) ⟨[], ns.zip us⟩ = pure (ps.zip (perm π us))) (l1 : π.length = ps.length) (l2 : ns.length = ps.length) : KwP K fd ps ns π := by
  obtain ⟨_, _, a, b, c, d, e, g, _, rfl, _, _⟩ := F.ex
  exact ⟨fun s ws _ hl => .of_eq (h a b c d e g ws hl), l1, l2⟩
def spP (π : List Nat) (sp : Sp) (n : Nat) : Sp := fun vs H Q E => vs.length = n ∧ sp (perm π vs) H Q E
theorem run_kwp {CX : CXT} {k : Nat} {f : Addr} {fd : FuncData} {ps ns : List Str} {π : List Nat} {sp : Sp} {E : L2.St → XK} {pins : List (Addr × Obj)} {σ : L2.St} {H : Hp} {s : Shared} {Q : VK} {ws : List Value} {zs : List V} (F : FnOk X.prog X.w X.K X.mg X.base CX k f fd ps sp) (hr : Room k X.A) (hb : KwP X.K fd ps ns π) (hx : PassesAt CX X σ (E σ))
    (I : Inv X pins σ H s) (rz : Vals zs ws) (h : spP π sp ns.length zs H Q (E σ)) : wpAny (model X.prog X.w) X.A (call (.ref f) [] (ns.zip ws)) (EP X pins σ Q) X.xe s := by
  have hl : ws.length = ns.length := by
    rw [← rz.length]
    exact h.1
  refine wpAny_call (codeAny_mono (F.run X.A X.stack s H ⟨[], ns.zip ws⟩ (perm π ws) (perm π zs) Q (E σ) hr I.env0 (hb.to s ws I.kIn hl) (vals_perm rz π) h.2) fun r s' hq => ?_)
  cases r with
  | error e => exact hx pins H s e s' I hq
  | ok fl =>
    cases fl with
    | ret u => exact I.after hq
    | next => exact False.elim hq
    | brk => exact False.elim hq
    | cont => exact False.elim hq
theorem pe_kwp {CX : CXT} {k : Nat} {f : Addr} {fd : FuncData} {ps ns : List Str} {π : List Nat} {sp : Sp} {E : L2.St → XK} {x : Str} {kws : List Keyword} {tk : TA} {p pos : Pos} (F : FnOk X.prog X.w X.K X.mg X.base CX k f fd ps sp) (hr : Room k X.A) (hg : Gl X x) (hm : X.mg x = some (.ref f)) (hk : PySem.W.keepIn X.K (.ref f) = true) (hb : KwP X.K fd ps ns π) (hx : ∀ σ, PassesAt CX X σ (E σ)) (hkw : PK X kws tk)
    (hall : (backToKw pos (keywordEach kws X.env)).all (·.1.isSome) = true) (hks : (backToKw pos (keywordEach kws X.env)).filterMap (·.1) = ns) (hdb : (x == ("__debug__" : Str)) = false)
    (hpl : ((backTo pos (starEach [] X.env)).any (·.1) || (backToKw pos (keywordEach kws X.env)).any (·.1.isNone)) = false) : PE X (.Call (.Name x p) [] kws pos) (fun σ H Q => tk σ H fun zs H1 => spP π sp ns.length zs H1 Q (E σ)) := by
  refine ⟨fun pins s σ H Q I h => ?_⟩
  refine wpAny_Call_Name_kw (ld_glob I hg hm ?_ hdb)
  refine PySem.W.callWith_KW0 (h₀ := X.base) I.ok.mod.kin hk hall ?_ hpl
  refine thn (hkw.run pos pins s σ H _ I h) fun ws s2 ⟨zs, H2, I2, rz, q2⟩ => ⟨I2.kIn, ?_⟩
  rw [hks]
  exact run_kwp F hr hb (hx σ) I2 rz q2
def dataO : List O → Option (List D)
  | [] => some []
  | .d x :: r => (dataO r).map (x :: ·)
  | _ => none
/-- a call by keywords in another order than the parameters': all that is handed in is data -/
def mCallP (π : List Nat) (f : List O → FR) (ks : List AK) : ME := fun env => match evalA ks env with
  | .ok cs e => match resA ks cs e with
    | some os => match dataO os with
      | some xs => match f ((perm π xs).map O.d) with
        | .ok o _ => .ok o e
        | .exc x _ => .exc x e
        | .fail => .fail
      | none => .fail
    | none => .fail
  | .exc x e => .exc x e
  | .fail => .fail
theorem dataO_of {G H : Hp} : ∀ {vs : List V} {os : List O} {xs : List D}, OAll K G H vs os → dataO os = some xs → Reps K G vs xs
  | _, _, _, .nil, h => by
    cases h
    exact .nil
  | v :: vs, .d x :: os, xs, .cons ⟨f, q⟩ r, h => by
    cases e : dataO os with
    | none => simp [dataO, e] at h
    | some ys =>
      simp [dataO, e] at h
      subst h
      cases q with
      | d q => exact .cons q (dataO_of r e)
  | v :: vs, .l _ :: os, xs, .cons _ _, h => by cases h
  | v :: vs, .t _ :: os, xs, .cons _ _, h => by cases h
theorem Reps.perm {G : Hp} {vs : List V} {xs : List D} (r : Reps K G vs xs) : ∀ π : List Nat, Reps K G (Dn.perm π vs) (Dn.perm π xs)
  | [] => .nil
  | j :: π => by
    have ih := Reps.perm r π
    unfold Dn.perm at ih ⊢
    rw [List.filterMap_cons, List.filterMap_cons]
    have hl := r.length
    cases e : xs[j]? with
    | none =>
      have e2 : vs[j]? = none := by
        rw [List.getElem?_eq_none_iff] at e ⊢
        omega
      rw [e2]
      exact ih
    | some x =>
      obtain ⟨v, e2, q⟩ := r.get e
      rw [e2]
      exact .cons q ih
theorem areNm_ex {σ : L2.St} : ∀ vs : List V, areNm (vs.map fun _ => AK.ex fun _ => .fail) σ vs
  | [] => rfl
  | v :: vs => ⟨v, vs, rfl, trivial, areNm_ex vs⟩
theorem backA_ex0 {α : Type} : ∀ (vs : List α) (as e e' : Env), backA (vs.map fun _ => AK.ex fun _ => .fail) as e e' = e'
  | [], _, _, _ => rfl
  | v :: vs, as, e, e' => backA_ex0 vs as.tail e e'
theorem de_callKWP {k n : Nat} {g : Addr} {fd : FuncData} {ps ns : List Str} {π : List Nat} {f : List O → FR} {x : Str} {kws : List Keyword} {p pos : Pos} {ks : List AK} (F : FnOk X.prog X.w X.K X.mg X.base (L2N.CX X.prog X.w) k g fd ps (FP X.K X.mg n f)) (hr : Room k X.A) (hm : X.mg x = some (.ref g)) (hk : PySem.W.keepIn X.K (.ref g) = true) (hb : KwP X.K fd ps ns π)
    (tk : L2N.Takes X W) (ha : DKw X W np kws ks) (hn : ks.length = ns.length := by rfl) (hpi : ∀ vs : List V, vs.length = ns.length → (perm π vs).length = n := by intro vs hl; match vs, hl with | [_, _], _ => rfl) (hg : Gl X x := by rfl) (hall : (backToKw pos (keywordEach kws X.env)).all (·.1.isSome) = true := by rfl) (hks : (backToKw pos (keywordEach kws X.env)).filterMap (·.1) = ns := by rfl) (hdb : (x == ("__debug__" : Str)) = false := by decide)
    (hpl : ((backTo pos (starEach [] X.env)).any (·.1) || (backToKw pos (keywordEach kws X.env)).any (·.1.isNone)) = false := by rfl) : DE X W np (.Call (.Name x p) [] kws pos) (mCallP π f ks) := by
  obtain ⟨t, q, s⟩ := ha.ex
  refine ⟨_, pe_kwp F hr hg hm hk hb (fun σ => L2N.passAt tk σ) q hall hks hdb hpl, fun Γ σ env τ stk G H Q hp r h => ?_⟩
  refine s Γ σ env τ stk G H _ hp r ?_
  unfold mCallP at h
  cases e1 : evalA ks env with
  | ok cs e =>
    simp only [e1] at h
    intro vs G1 H1 hl r1 n1
    cases e2 : resA ks cs e with
    | none => simp only [e2] at h; exact False.elim h
    | some os =>
      simp only [e2] at h
      cases e3 : dataO os with
      | none => simp only [e3] at h; exact False.elim h
      | some xs =>
        simp only [e3] at h
        have oa := oall_of (pre := []) (pres := []) rfl r1 hl n1 e2
        have rp := (dataO_of oa e3).perm π
        have r2 : R X.K Γ σ e τ stk G1 H1 := R.popN (by simp [hl]) r1
        have r3 := R.pushDs rp r2
        have hvl : vs.length = ns.length := (areNm_len n1).trans hn
        refine ⟨hvl, call_fp (ks := (perm π vs).map fun _ => AK.ex fun _ => .fail) (e := e) (env := e) r3 (hpi vs hvl) (by rw [List.length_map, rp.length]) (areNm_ex _) ?_⟩
        cases e4 : f ((perm π xs).map O.d) with
        | ok o as =>
          simp only [e4] at h ⊢
          rw [backA_ex0]
          exact h
        | exc y as =>
          simp only [e4] at h ⊢
          rw [backA_ex0]
          exact h
        | fail => simp only [e4] at h; exact False.elim h
  | exc x e =>
    simp only [e1] at h
    exact h
  | fail =>
    simp only [e1] at h
    exact h
end
end Dn
end
section
set_option Elab.async false
set_option linter.all false
set_option maxRecDepth 100000
set_option maxHeartbeats 4000000
/-! Dn28: x[::-1] of tuples and of lists. -/
namespace Dn
open PySem PySem.Spec L2
open PyProof.Rows hiding St
section
variable {prog : Program} {w : World} {A : Around} {E : Value → Shared → Prop} {s : Shared}
theorem applied_rev {sl : Addr} {vs : Value} {n : Nat} {Q : Int × Int × Nat → Shared → Prop} (hs : s.heap.IsSliceOf sl .none .none vs) (ps : IsPart vs (some (-1)))
    (h : Q ((n : Int) - 1, -1, n) s) : wpAny (model prog w) A (Builtin.Slice.sliceApplied (.ref sl) (pure (n : Int))) Q E s := by
  obtain ⟨os, hos, hcs, hds⟩ := id hs
  unfold Builtin.Slice.sliceApplied Builtin.Slice.sliceFields
  refine wpAny_bind (wpAny_bind (wpAny_field hos hds (x := .none) rfl (wpAny_bind (wpAny_field hos hds (x := .none) rfl (wpAny_bind (wpAny_field hos hds (x := vs) rfl (wpAny_pure ?_)))))))
  refine wpAny_bind (HT.slicePart_ ps ?_)
  show wpAny _ _ (if ((-1 : Int) == 0) = true then _ else _) _ _ s
  rw [if_neg (by decide)]
  refine wpAny_bind (HT.slicePart_ .none (wpAny_bind (HT.slicePart_ .none (wpAny_bind (wpAny_pure ?_)))))
  show wpAny _ _ (match Builtin.Slice.sliceAdjust none none (-1) (n : Int) with | (lo, hi) => pure (lo, (-1 : Int), Builtin.Slice.slicePlaces lo hi (-1))) _ _ s
  show wpAny _ _ (pure ((n : Int) - 1, (-1 : Int), Builtin.Slice.slicePlaces ((n : Int) - 1) (-1) (-1))) _ _ s
  have e : Builtin.Slice.slicePlaces ((n : Int) - 1) (-1) (-1) = n := by
    unfold Builtin.Slice.slicePlaces
    rw [if_neg (by decide)]
    split <;> simp <;> omega
  rw [e]
  exact wpAny_pure h
theorem pick_rev (xs : Array Value) : ((List.range xs.size).filterMap fun (m : Nat) => xs[(((xs.size : Int) - 1) + (m : Int) * (-1)).toNat]?).toArray = xs.toList.reverse.toArray := by
  have e : (fun (m : Nat) => xs[(((xs.size : Int) - 1) + (m : Int) * (-1)).toNat]?) = (xs[·]?) ∘ fun k => xs.size - 1 - k := by
    funext m
    show xs[(((xs.size : Int) - 1) + (m : Int) * (-1)).toNat]? = xs[xs.size - 1 - m]?
    rw [show (((xs.size : Int) - 1) + (m : Int) * (-1)).toNat = xs.size - 1 - m by omega]
  rw [e, ← List.filterMap_map, PySem.W.krv_range, List.filterMap_reverse, PySem.W.krv_all]
theorem getItem_tuple_rev {t sl : Addr} {items : Array Value} {vs : Value} {Q : Value → Shared → Prop} (ht : IsTup s.heap t items) (hs : s.heap.IsSliceOf sl .none .none vs) (ps : IsPart vs (some (-1)))
    (h : Q (.ref s.heap.objs.size) { s with heap := s.heap.push { cls := .type "tuple", data := .seq items.toList.reverse.toArray } })
    (hsz : items.size ≤ sizeLine) : wpAny (model prog w) A (getItem (.ref t) (.ref sl)) Q E s := by
  have htake : sizeOk (.seq items.toList.reverse.toArray) := by
    show items.toList.reverse.toArray.size ≤ sizeLine
    simpa using hsz
  obtain ⟨os, hos, hcs, hds⟩ := id hs
  have hTs : s.TypeIs (.ref sl) "slice" := ⟨os, hos, hcs⟩
  unfold getItem
  try with_reducible refine wpAny_holding ?_
  first | refine wpAny_bind (wpAny_pure ?_) | skip
  refine wpAny_bind (wpAny_sequenceKey ht.typeIs (by decide) ?_)
  refine wpAny_bind (wpAny_callSpecial?_slot (name := Str.ofString "__getitem__") ht.typeIs PyProof.Rows.slot_tuple_getitem
    (wpAny_call_entry PyProof.Rows.slot_tuple_getitem ht.typeIs entry_tuple_getitem ?_ (args_tuple_getitem _ _)))
  show wpAny _ _ (Builtin.Tuple.tupleItemsOf (.ref t) >>= _) _ _ s
  refine wpAny_bind (tupleItemsOf_ ht ?_)
  refine wpAny_bind (wpAny_typeOf hTs ?_)
  rw [if_pos (by decide)]
  refine wpAny_bind (applied_rev hs ps ?_)
  have hno : ¬ ((((items.size : Int) - 1) == 0 && (-1 : Int) == 1 && items.size == items.size) = true) := by
    intro q
    rw [Bool.and_eq_true, Bool.and_eq_true] at q
    exact absurd q.1.2 (by decide)
  show wpAny _ _ (if (((items.size : Int) - 1) == 0 && (-1 : Int) == 1 && items.size == items.size) = true then _ else _) _ _ s
  rw [if_neg hno, pick_rev]
  first
    | exact wpAny_bind (m := Builtin.Tuple.tupleExact _) (wpAny_newObj_type (wpAny_pure ⟨_, rfl, wpAny_pure h⟩) htake)
    | exact wpAny_bind (m := Builtin.Tuple.tupleExact _) (wpAny_newObj_type (wpAny_bind (wpAny_pure (wpAny_pure ⟨_, rfl, wpAny_pure h⟩))) htake)
    | exact wpAny_bind (wpAny_bind (m := Builtin.Tuple.tupleExact _) (wpAny_newObj_type (wpAny_pure (wpAny_pure ⟨_, rfl, wpAny_pure h⟩)) htake))
    | exact wpAny_bind (wpAny_bind (m := Builtin.Tuple.tupleExact _) (wpAny_newObj_type (wpAny_pure ⟨_, rfl, wpAny_pure h⟩) htake))
end
section
variable {X : Cx}
def rRv (K : PySem.W.Frag) : V → Hp → VK → Prop := fun x H Q => (∃ a xs, x = .ref a ∧ SqT K H a xs ∧ ∀ p, H p = none → Q (.ref p) (upd H p (.tup xs.reverse))) ∨ ∃ a xs, x = .ref a ∧ SqL K H a xs ∧ ∀ p, H p = none → Q (.ref p) (upd H p (.lst xs.reverse))
theorem pe_rv {e : Expr} {te : TE} {k : Nat} {p1 p2 p3 pos : Pos} (he : PE X e te) : PE X (.Subscript e (.Slice none none (some (.UnaryOp .USub (.Constant (.int 1) k p1) p2)) p3) pos) (tUn (rRv X.K) te) := by
  refine ⟨fun pins s σ H Q I h => ?_⟩
  refine Subscript_ (thn (he.run pins s σ H _ I h) fun v s1 ⟨x, H1, I1, r1, q1⟩ => ?_)
  have hst : PO X (some (.UnaryOp .USub (.Constant (.int 1) k p1) p2)) (tPart (tUn (rU fun i => .int (-i)) (tC (.int 1)))) := po_some (pe_un un_neg pe_int)
  refine wpAny_Slice (thn (po_none.run pins s1 σ H1 (fun o H2 => o = none ∧ H2 = H1) I1 ⟨rfl, rfl⟩) fun vl s2 ⟨l, H2, I2, pl, el, e2⟩ => ?_)
  subst el e2
  refine thn (po_none.run pins s2 σ H2 (fun o H3 => o = none ∧ H3 = H2) I2 ⟨rfl, rfl⟩) fun vu s3 ⟨u, H3, I3, pu, eu, e3⟩ => ?_
  subst eu e3
  refine thn (hst.run pins s3 σ H3 (fun o H4 => o = some (-1) ∧ H4 = H3) I3 ⟨1, rfl, -1, rfl, rfl, rfl⟩) fun vs s4 ⟨o, H4, I4, ps, eo, e4⟩ => ?_
  subst eo e4
  have I5 : Inv X pins σ H4 { s4 with heap := s4.heap.push { cls := .type "slice", data := .fields #[vl, vu, vs] } } := I4.kept (t' := s4.toks) fun b ob q => Heap.get?_push_of_some _ q
  show wpAny (model X.prog X.w) X.A (subscriptTail e (.Slice none none (some (.UnaryOp .USub (.Constant (.int 1) k p1) p2)) p3) v (.ref s4.heap.objs.size)) (EP X pins σ Q) X.xe { s4 with heap := s4.heap.push { cls := .type "slice", data := .fields #[vl, vu, vs] } }
  rcases q1 with ⟨a, xs, ex, hx, q⟩ | ⟨a, xs, ex, hx, q⟩
  · subst ex
    cases r1
    obtain ⟨its, r, ht, hz⟩ := I5.tuple hx
    have hlen : its.toArray.size = xs.length := by rw [List.size_toArray]; exact r.length.symm
    refine tail_any (ops := [.ref a, .ref s4.heap.objs.size]) ht.typeIs (PyProof.Rows.slot_tuple_getitem.lookup) ?_ (by with_unfolding_all rfl)
    cases pl
    cases pu
    refine getItem_tuple_rev ht (Heap.IsSliceOf.new _ .none .none vs) ps ?_ (by rw [hlen]; exact hz)
    refine ⟨.ref _, _, I5.laid (t' := s4.toks) (o := .tup xs.reverse) (fun b ob q => Heap.get?_push_of_some _ q) (Nat.le_refl _) ?_, rfl, q _ (I5.hok.fresh (Nat.le_refl _))⟩
    exact ⟨by rw [List.length_reverse]; exact hz, _, r.reverse, IsTup.new _ _⟩
  · subst ex
    cases r1
    obtain ⟨its, r, ht, hz⟩ := I5.list hx
    have hlen := r.length
    refine tail_any (ops := [.ref a, .ref s4.heap.objs.size]) ht.isList.typeIs (PySem.slot_list_getitem.lookup) ?_ (by with_unfolding_all rfl)
    refine wpAny_getItem_list_slice ht.isList (Heap.IsSliceOf.new _ vl vu vs) pl pu ps (by decide) ?_ (by rw [List.size_toArray]; omega)
    rw [PySem.W.krv_pick]
    refine ⟨.ref _, _, I5.laid (t' := s4.toks) (o := .lst xs.reverse) (fun b ob q => Heap.get?_push_of_some _ q) (Nat.le_refl _) ?_, rfl, q _ (I5.hok.fresh (Nat.le_refl _))⟩
    exact ⟨by rw [List.length_reverse]; exact hz, _, 0, r.reverse, Heap.get?_push_size _ rfl⟩
end
def toRv : O → Option O := fun o => match tupF o with
  | some xs => some (.d (.tup xs.reverse))
  | none => (lstF o).map fun xs => .l (xs.reverse.map O.d)
section
variable {X : Cx} {W : WX} {np : Asm} {K : PySem.W.Frag}
theorem s_rv : OpS K (r1 (rRv K)) (op1 toRv) := ops1 fun Γ σ e τ stk G H v a o Q rr ha ho k => by
  show rRv K v H Q
  unfold toRv at ho
  cases et : tupF a with
  | some xs =>
    simp only [et] at ho
    cases ho
    obtain ⟨b, ws, ev, sq, rp, sg⟩ := tupF_of rr.wd.sub ha et
    exact .inl ⟨b, ws, ev, sq, fun p hp => k _ _ _ (rr.mkT rp.rev hp)⟩
  | none =>
    simp only [et] at ho
    cases el : lstF a with
    | none => rw [el] at ho; cases ho
    | some xs =>
      rw [el] at ho
      cases ho
      obtain ⟨b, ws, ev, sq, rp⟩ := lstF_of rr.wd.sub ha el
      exact .inr ⟨b, ws, ev, sq, fun p hp => k _ _ _ (rr.mkL rp.rev hp)⟩
theorem de_rv {a : Expr} {k1 : AK} {k : Nat} {p1 p2 p3 pos : Pos} (ha : DK X W np a k1) : DE X W np (.Subscript a (.Slice none none (some (.UnaryOp .USub (.Constant (.int 1) k p1) p2)) p3) pos) (mOp (op1 toRv) [k1]) := by
  obtain ⟨ta, p, s⟩ := ha.ex
  exact ⟨_, pe_rv p, esnd_op (r := r1 (rRv X.K)) (asnd_cons s asnd_nil) s_rv⟩
end
end Dn
end
section
set_option Elab.async false
set_option linter.all false
set_option maxRecDepth 100000
set_option maxHeartbeats 4000000
/-! Dn29: zip of three tuples. -/
namespace Dn
open PySem PySem.Spec L2
open PyProof.Rows hiding St
def Itz3 (K : PySem.W.Frag) (a b c : Addr) : It :=
  ⟨fun i H => ∃ (xs ys us : List V) (x y u : V), SqT K H a xs ∧ SqT K H b ys ∧ SqT K H c us ∧ xs[i]? = some x ∧ ys[i]? = some y ∧ us[i]? = some u,
    fun i H v H' => ∃ T x y u, v = .ref T ∧ H T = none ∧ H' = upd H T (.tup [x, y, u]) ∧ (∀ xs, SqT K H a xs → xs[i]? = some x) ∧ (∀ ys, SqT K H b ys → ys[i]? = some y) ∧ ∀ us, SqT K H c us → us[i]? = some u,
    fun i H => ∃ xs ys us : List V, SqT K H a xs ∧ SqT K H b ys ∧ SqT K H c us ∧ i = min (min xs.length ys.length) us.length⟩
theorem turn_zip3 {P : Program} {w : World} {K : PySem.W.Frag} {elts : List Expr} {kk : Nat} {tpos : Pos} {a b c z TI TO i1 i2 i3 : Addr} (D : ZipSep3 z TI TO i1 i2 i3 [i1, a] [i2, b] [i3, c]) (ha : a ≠ i1) (hb : b ≠ i2) (hc' : c ≠ i3) :
    Turn P w K (.Tuple elts kk tpos) (Itz3 K a b c) [z, TI, TO, i1, i2, i3] z (fun i h => IsZip h z TI TO .none ∧ IsTupOf3 h TI (.ref i1) (.ref i2) (.ref i3) ∧ (∃ x y u, IsTupOf3 h TO x y u) ∧ h.IsTupleIter i1 a i ∧ h.IsTupleIter i2 b i ∧ h.IsTupleIter i3 c i) where
  mem := by simp
  obj := fun i h st d hd => by
    obtain ⟨hz, hTI, ⟨x, y, u, hTO⟩, ⟨o1, e1, _, d1⟩, ⟨o2, e2, _, d2⟩, ⟨o3, e3, _, d3⟩⟩ := st
    have e' : d = z ∨ d = TI ∨ d = TO ∨ d = i1 ∨ d = i2 ∨ d = i3 := by simpa using hd
    rcases e' with q | q | q | q | q | q
    · rw [q]; exact ⟨_, hz, fun v q => nomatch q⟩
    · rw [q]; exact ⟨_, hTI, fun v q => nomatch q⟩
    · rw [q]; exact ⟨_, hTO, fun v q => nomatch q⟩
    · rw [q]; exact ⟨o1, e1, fun v q => by rw [d1] at q; cases q⟩
    · rw [q]; exact ⟨o2, e2, fun v q => by rw [d2] at q; cases q⟩
    · rw [q]; exact ⟨o3, e3, fun v q => by rw [d3] at q; cases q⟩
  keep := fun i h h' st k => by
    obtain ⟨hz, hTI, ⟨x, y, u, hTO⟩, h1, h2, h3⟩ := st
    exact ⟨k z (by simp) _ hz, k TI (by simp) _ hTI, ⟨x, y, u, k TO (by simp) _ hTO⟩, h1.at fun o q => k i1 (by simp) o q, h2.at fun o q => k i2 (by simp) o q, h3.at fun o q => k i3 (by simp) o q⟩
  item := by
    intro X hP hw hK hc i pins s σ H E I hf st hg
    subst hP hw hK
    obtain ⟨hz, hTI, hTO, h1, h2, h3⟩ := st
    obtain ⟨xs, ys, us, x, y, u, hqx, hqy, hqu, hx, hy, hu⟩ := hg
    obtain ⟨its, rv, p, _⟩ := I.tuple hqx
    obtain ⟨its2, rv2, p2, _⟩ := I.tuple hqy
    obtain ⟨its3, rv3, p3, _⟩ := I.tuple hqu
    obtain ⟨v1, g1, r1⟩ := rv.get hx
    obtain ⟨v2, g2, r2⟩ := rv2.get hy
    obtain ⟨v3, g3, r3⟩ := rv3.get hu
    have hd : X.A.in1.handled = none := I.ok.hd hc
    have W := GoesN.zip3 (elts := elts) (x1 := kk) (pos := tpos) D (Draws.tuple (prog := X.prog) (w := X.w) (A := X.A.in1) hd i1 a ha its.toArray) (Draws.tuple (prog := X.prog) (w := X.w) (A := X.A.in1) hd i2 b hb its2.toArray) (Draws.tuple (prog := X.prog) (w := X.w) (A := X.A.in1) hd i3 c hc' its3.toArray)
    have l1 : i < its.length := (List.getElem?_eq_some_iff.mp g1).1
    have l2 : i < its2.length := (List.getElem?_eq_some_iff.mp g2).1
    have l3 : i < its3.length := (List.getElem?_eq_some_iff.mp g3).1
    refine W.goes i s _ _ (by simp; omega) ⟨hz, hTI, hTO, ⟨h1, p⟩, ⟨h2, p2⟩, ⟨h3, p3⟩⟩ fun v h' tk hY st' hk htk => ?_
    obtain ⟨Tn, x', y', u', rfl, hT, ex, ey, eu, hTup⟩ := hY
    obtain ⟨z', TI', TO', ⟨j1, _⟩, ⟨j2, _⟩, ⟨j3, _⟩⟩ := st'
    have ex' : x' = v1 := by simpa [g1] using ex.symm
    have ey' : y' = v2 := by simpa [g2] using ey.symm
    have eu' : u' = v3 := by simpa [g3] using eu.symm
    subst ex' ey' eu'
    have new : ObjOk X.prog X.w (upd H Tn (.tup [x, y, u])) h' Tn (.tup [x, y, u]) := ⟨by show 3 ≤ sizeLine; decide, [x', y', u'], .cons r1 (.cons r2 (.cons r3 .nil)), hTup⟩
    have I1 : Inv X pins σ (upd H Tn (.tup [x, y, u])) { s with heap := h', toks := tk } :=
      I.turnedNew (t' := tk) (ch := [z, TI, TO, i1, i2, i3]) (fun d o hb q => hk d o (fun m => hb (by
        have : d = z ∨ d = TO ∨ d = i1 ∨ d = i2 ∨ d = i3 := by simpa using m
        rcases this with e | e | e | e | e <;> simp [e])) q) hf hT new
    refine ⟨.ref Tn, _, I1, rfl, ⟨Tn, x, y, u, rfl, I.hok.fresh hT, rfl, fun l hl => by rw [I.tuple_inj hl hqx]; exact hx, fun l hl => by rw [I.tuple_inj hl hqy]; exact hy, fun l hl => by rw [I.tuple_inj hl hqu]; exact hu⟩, ⟨z', TI', TO', j1, j2, j3⟩, fun d hdm => ?_⟩
    have hlt : d < s.heap.objs.size := by
      have e' : d = z ∨ d = TI ∨ d = TO ∨ d = i1 ∨ d = i2 ∨ d = i3 := by simpa using hdm
      obtain ⟨q1, q2, q3, hTO⟩ := hTO
      rcases e' with q | q | q | q | q | q
      · rw [q]; exact Heap.lt_size hz
      · rw [q]; exact Heap.lt_size hTI
      · rw [q]; exact Heap.lt_size hTO
      · rw [q]; obtain ⟨_, e1, _⟩ := h1; exact Heap.lt_size e1
      · rw [q]; obtain ⟨_, e2, _⟩ := h2; exact Heap.lt_size e2
      · rw [q]; obtain ⟨_, e3, _⟩ := h3; exact Heap.lt_size e3
    rw [upd_ne (Nat.ne_of_lt (Nat.lt_of_lt_of_le hlt hT))]
    exact (hf d hdm).1
  done := by
    intro X hP hw hK hc i pins s σ H E I hf st hg
    subst hP hw hK
    obtain ⟨hz, hTI, hTO, h1, h2, h3⟩ := st
    obtain ⟨xs, ys, us, hqx, hqy, hqu, hend⟩ := hg
    obtain ⟨its, rv, p, _⟩ := I.tuple hqx
    obtain ⟨its2, rv2, p2, _⟩ := I.tuple hqy
    obtain ⟨its3, rv3, p3, _⟩ := I.tuple hqu
    have l1 := rv.length
    have l2 := rv2.length
    have l3 := rv3.length
    have hd : X.A.in1.handled = none := I.ok.hd hc
    have W := GoesN.zip3 (elts := elts) (x1 := kk) (pos := tpos) D (Draws.tuple (prog := X.prog) (w := X.w) (A := X.A.in1) hd i1 a ha its.toArray) (Draws.tuple (prog := X.prog) (w := X.w) (A := X.A.in1) hd i2 b hb its2.toArray) (Draws.tuple (prog := X.prog) (w := X.w) (A := X.A.in1) hd i3 c hc' its3.toArray)
    have en : i = min (min its.toArray.size its2.toArray.size) its3.toArray.size := by simp; omega
    refine W.stops s _ _ (by rw [← en]; exact ⟨hz, hTI, hTO, ⟨h1, p⟩, ⟨h2, p2⟩, ⟨h3, p3⟩⟩) fun h' tk hk htk => ?_
    exact I.turnedL (t' := tk) (ch := [z, TI, TO, i1, i2, i3]) (fun d o hb q => hk d o (fun m => hb (by
        have : d = z ∨ d = TO ∨ d = i1 ∨ d = i2 ∨ d = i3 := by simpa using m
        rcases this with e | e | e | e | e <;> simp [e])) q) hf
  self := fun A i s Q E st h => wpAny_pyIter_zip st.1 h
def iZip3 (K : PySem.W.Frag) (ta : TA) : TI := fun σ H R => ta σ H fun vs H1 => ∃ a b c xs ys us, vs = [.ref a, .ref b, .ref c] ∧ SqT K H1 a xs ∧ SqT K H1 b ys ∧ SqT K H1 c us ∧ R (Itz3 K a b c) H1
theorem pi_zip3 {X : Cx} {e e2 e3 : Expr} {ta : TA} {p pos tpos : Pos} {elts : List Expr} {kk : Nat} (hg : Gl X "zip") (hm : X.mg "zip" = none) (ha : PA X [e, e2, e3] ta)
    (hs : starEach [e, e2, e3] X.env = (false, eval e X.env) :: starEach [e2, e3] X.env := by rfl) (hpl : (backTo pos (starEach [e2, e3] X.env)).any (·.1) = false := by rfl) :
    PI X (.Tuple elts kk tpos) (.Call (.Name "zip" p) [e, e2, e3] [] pos) (iZip3 X.K ta) := by
  refine ⟨fun pins s σ H R I h => ?_⟩
  refine Call_ (ld_blt I hg hm PyProof.Rows.boot_zip (PyProof.Rows.callWith_type1 (thn (ha.run pos pins s σ H _ I h) fun us s1 ⟨vs, H1, I1, r1, q1⟩ => ?_) hs hpl))
  obtain ⟨a, b, c, xs, ys, zs, ex, hqx, hqy, hqz, q⟩ := q1
  subst ex
  cases r1 with
  | cons r rr =>
    cases rr with
    | cons r' rr =>
      cases rr with
      | cons r'' rr =>
        cases rr
        cases r
        cases r'
        cases r''
        have fresh6 : ∀ d, d ∈ [s1.heap.objs.size + 5, s1.heap.objs.size + 3, s1.heap.objs.size + 4, s1.heap.objs.size, s1.heap.objs.size + 1, s1.heap.objs.size + 2] → FpOk X pins H1 d := fun d hdm => by
          have e' : d = s1.heap.objs.size + 5 ∨ d = s1.heap.objs.size + 3 ∨ d = s1.heap.objs.size + 4 ∨ d = s1.heap.objs.size ∨ d = s1.heap.objs.size + 1 ∨ d = s1.heap.objs.size + 2 := by simpa using hdm
          have hle : s1.heap.objs.size ≤ d := by
            rcases e' with z | z | z | z | z | z
            · rw [z]; exact Nat.le_add_right _ _
            · rw [z]; exact Nat.le_add_right _ _
            · rw [z]; exact Nat.le_add_right _ _
            · rw [z]; exact Nat.le_refl _
            · rw [z]; exact Nat.le_add_right _ _
            · rw [z]; exact Nat.le_add_right _ _
          exact I1.fpOk hle (I1.hok.fresh hle)
        obtain ⟨its, rv, p1, _⟩ := I1.tuple hqx
        obtain ⟨its2, rv2, p2, _⟩ := I1.tuple hqy
        obtain ⟨its3, rv3, p3, _⟩ := I1.tuple hqz
        obtain ⟨o1, ho1, _⟩ := id p1
        obtain ⟨o2, ho2, _⟩ := id p2
        obtain ⟨o3, ho3, _⟩ := id p3
        have la : a < s1.heap.objs.size := Heap.lt_size ho1
        have lb : b < s1.heap.objs.size := Heap.lt_size ho2
        have lc : c < s1.heap.objs.size := Heap.lt_size ho3
        refine zip_begins3 (begins_tuple a its.toArray) (begins_tuple b its2.toArray) (begins_tuple c its3.toArray) p1 p2 p3 fun h' hz hTI hTO h1 h2 h3 hsz hk => wpAny_pyIter_zip hz ?_
        have I2 : Inv X pins σ H1 { s1 with heap := h' } := I1.kept (t' := s1.toks) hk
        have S := zip_sep3 (N := s1.heap.objs.size) (fp1 := [a]) (fp2 := [b]) (fp3 := [c]) (fun d hd => by simp at hd; rw [hd]; exact la) (fun d hd => by simp at hd; rw [hd]; exact lb) (fun d hd => by simp at hd; rw [hd]; exact lc)
        exact ⟨s1.heap.objs.size + 5, [s1.heap.objs.size + 5, s1.heap.objs.size + 3, s1.heap.objs.size + 4, s1.heap.objs.size, s1.heap.objs.size + 1, s1.heap.objs.size + 2], _, _, H1, rfl, I2, turn_zip3 S (Nat.ne_of_lt la) (Nat.ne_of_lt (Nat.lt_succ_of_lt lb)) (Nat.ne_of_lt (Nat.lt_succ_of_lt (Nat.lt_succ_of_lt lc))),
          ⟨hz, hTI, ⟨_, _, _, hTO⟩, ⟨_, h1, rfl, rfl⟩, ⟨_, h2, rfl, rfl⟩, ⟨_, h3, rfl, rfl⟩⟩, fresh6, q⟩
def zip3D : List D → List D → List D → List D
  | x :: xs, y :: ys, u :: us => .tup [x, y, u] :: zip3D xs ys us
  | _, _, _ => []
theorem zip3D_get : ∀ (xs ys us : List D) (i : Nat) (z : D), (zip3D xs ys us)[i]? = some z → ∃ x y u, xs[i]? = some x ∧ ys[i]? = some y ∧ us[i]? = some u ∧ z = .tup [x, y, u]
  | [], _, _, _, _, h => by simp [zip3D] at h
  | _ :: _, [], _, _, _, h => by simp [zip3D] at h
  | _ :: _, _ :: _, [], _, _, h => by simp [zip3D] at h
  | x :: xs, y :: ys, u :: us, 0, z, h => by
    simp [zip3D] at h
    exact ⟨x, y, u, rfl, rfl, rfl, h.symm⟩
  | x :: xs, y :: ys, u :: us, i + 1, z, h => by
    obtain ⟨a, b, c, h1, h2, h3, h4⟩ := zip3D_get xs ys us i z (by simpa [zip3D] using h)
    exact ⟨a, b, c, by simpa using h1, by simpa using h2, by simpa using h3, h4⟩
theorem zip3D_len : ∀ (xs ys us : List D), (zip3D xs ys us).length = min (min xs.length ys.length) us.length
  | [], _, _ => by simp [zip3D]
  | _ :: _, [], _ => by simp [zip3D]
  | _ :: _, _ :: _, [] => by simp [zip3D]
  | x :: xs, y :: ys, u :: us => by
    simp only [zip3D, List.length_cons, zip3D_len xs ys us]
    omega
def zip3O (os : List O) : Option (List D) := match os with
  | [a, b, c] => match itT (frz a), itT (frz b), itT (frz c) with
    | some xs, some ys, some us => some (zip3D xs ys us)
    | _, _, _ => none
  | _ => none
def mZip3 (ks : List AK) : Env → Rs (List D) := fun env => match evalA ks env with
  | .ok cs e => match (allS cs).bind zip3O with
    | some xs => .ok xs e
    | none => .fail
  | .exc x e => .exc x e
  | .fail => .fail
section
variable {X : Cx} {W : WX} {np : Asm} {K : PySem.W.Frag} {mg : Str → Option Value}
theorem wk_zip3 {G0 : Hp} {a b c : Addr} {vs ws us : List V} {xs ys zs : List D} (rp : Reps K G0 vs xs) (rq : Reps K G0 ws ys) (rs : Reps K G0 us zs) (hg : ∀ G H, Sub G0 G → Sub G H → SqT K H a vs ∧ SqT K H b ws ∧ SqT K H c us) : Wk K G0 (Itz3 K a b c) (zip3D xs ys zs) := by
  intro G H s1 s2
  obtain ⟨q1, q2, q3⟩ := hg G H s1 s2
  have l1 := rp.length
  have l2 := rq.length
  have l3 := rs.length
  have hl := zip3D_len xs ys zs
  refine ⟨fun i hi => ?_, ⟨vs, ws, us, q1, q2, q3, by omega⟩, fun i x hx v H' y => ?_⟩
  · have h1 : i < vs.length := by omega
    have h2 : i < ws.length := by omega
    have h3 : i < us.length := by omega
    exact ⟨vs, ws, us, vs[i], ws[i], us[i], q1, q2, q3, by simp [h1], by simp [h2], by simp [h3]⟩
  · obtain ⟨T, x1, y1, u1, e1, e2, e3, e4, e5, e6⟩ := y
    obtain ⟨a', b', c', h1, h2, h3, h4⟩ := zip3D_get xs ys zs i x hx
    obtain ⟨v1, g1, r1⟩ := rp.get h1
    obtain ⟨v2, g2, r2⟩ := rq.get h2
    obtain ⟨v3, g3, r3⟩ := rs.get h3
    have p1 : some x1 = some v1 := (e4 vs q1).symm.trans g1
    have p2 : some y1 = some v2 := (e5 ws q2).symm.trans g2
    have p3 : some u1 = some v3 := (e6 us q3).symm.trans g3
    cases p1
    cases p2
    cases p3
    exact .inr ⟨T, _, _, e1, e2, e3, h4, .cons (r1.mono s1) (.cons (r2.mono s1) (.cons (r3.mono s1) .nil))⟩
theorem zip_three {G : Hp} {vs : List V} {os : List O} {zs : List D} (r : Reps K G vs (frzs os)) (h : zip3O os = some zs) : ∃ x y u v w t xs ys us, vs = [v, w, t] ∧ Rep K G v x ∧ Rep K G w y ∧ Rep K G t u ∧ itT x = some xs ∧ itT y = some ys ∧ itT u = some us ∧ zs = zip3D xs ys us := by
  match os, h with
  | [a, b, c], h =>
    simp only [zip3O] at h
    cases r with
    | cons r1 r =>
      cases r with
      | cons r2 r =>
        cases r with
        | cons r3 r =>
          cases r
          cases t1 : itT (frz a) with
          | none => simp only [t1] at h; cases h
          | some xs =>
            cases t2 : itT (frz b) with
            | none => simp only [t1, t2] at h; cases h
            | some ys =>
              cases t3 : itT (frz c) with
              | none => simp only [t1, t2, t3] at h; cases h
              | some us =>
                simp only [t1, t2, t3] at h
                cases h
                exact ⟨_, _, _, _, _, _, xs, ys, us, rfl, r1, r2, r3, t1, t2, t3, rfl⟩
theorem di_zip3 {e e2 e3 : Expr} {es : List Expr} {kk : Nat} {k1 k2 k3 : AK} {p pos tpos : Pos} (hm : X.mg "zip" = none) (h : DA X W np [e, e2, e3] [k1, k2, k3]) (hg : Gl X "zip" := by rfl) (hs : starEach [e, e2, e3] X.env = (false, eval e X.env) :: starEach [e2, e3] X.env := by rfl) (hpl : (backTo pos (starEach [e2, e3] X.env)).any (·.1) = false := by rfl) :
    DI X W np (.Tuple es kk tpos) (.Call (.Name "zip" p) [e, e2, e3] [] pos) (mZip3 [k1, k2, k3]) := by
  obtain ⟨t, pa, s⟩ := h.ex
  refine ⟨_, pi_zip3 hg hm pa hs hpl, fun Γ σ env τ stk G H Q hp r h => s Γ σ env τ stk G H _ hp r ?_⟩
  unfold mZip3 at h
  cases e1 : evalA [k1, k2, k3] env with
  | ok cs e =>
    simp only [e1] at h
    intro vs G1 H1 hl r1 n1
    cases e2 : (allS cs).bind zip3O with
    | none => simp only [e2] at h; exact False.elim h
    | some zs =>
      simp only [e2] at h
      cases e3 : allS cs with
      | none => rw [e3] at e2; cases e2
      | some os =>
        rw [e3] at e2
        replace e2 : zip3O os = some zs := e2
        have ec := allS_of e3
        subst ec
        have hl' : vs.length = os.length := by
          rw [← hl, List.length_map]
        obtain ⟨G2, r2, q2⟩ := r1.frzN hl'
        obtain ⟨x, y, u, v, w, t, xs, ys, us, ev, ra, rb, rc, t1, t2, t3, e4⟩ := zip_three q2 e2
        subst ev e4
        obtain ⟨a', ws1, rfl, sq1, rp1⟩ := itT_of ra t1
        obtain ⟨b', ws2, rfl, sq2, rp2⟩ := itT_of rb t2
        obtain ⟨c', ws3, rfl, sq3, rp3⟩ := itT_of rc t3
        exact ⟨a', b', c', ws1, ws2, ws3, rfl, r2.wd.sub.sqT sq1, r2.wd.sub.sqT sq2, r2.wd.sub.sqT sq3, h _ G2 H1 r2 (wk_zip3 rp1 rp2 rp3 fun G H s1 s2 => ⟨s2.sqT (s1.sqT sq1), s2.sqT (s1.sqT sq2), s2.sqT (s1.sqT sq3)⟩)⟩
  | exc x e =>
    simp only [e1] at h
    exact h
  | fail =>
    simp only [e1] at h
    exact h
end
end Dn
end
section
set_option Elab.async false
set_option linter.all false
set_option maxRecDepth 100000
set_option maxHeartbeats 4000000
/-! Dn30: x in / not in a list or a tuple of data. -/
namespace Dn
open PySem PySem.Spec L2 L2H
open PyProof.Rows hiding St
theorem _root_.L2H.RoomH.units65 {k : Nat} {A : Around} (r : RoomH k A) : A.units + 65 < cLine := by
  have := r.un
  omega
theorem _root_.L2.Room.units65 {k : Nat} {A : Around} (r : Room k A) : A.units + 65 < cLine := by
  have := r.un
  omega
def rInA (K : PySem.W.Frag) (neg : Bool) : R2 := fun x y H Q => ∃ d ds, Dp K H x d ∧ ((Dp K H y (.list ds) ∧ SeqAt.shaped (.list ds) = true) ∨ (Dp K H y (.tuple ds) ∧ SeqAt.shaped (.tuple ds) = true)) ∧ SeqAt.shaped d = true ∧ Q (.bl (if neg then !ds.any fun z => PyData.eqv z d else ds.any fun z => PyData.eqv z d)) H
section
variable {X : Cx}
theorem op_inA (hu : X.A.units + 65 < cLine) : OpR X (compareOp .In) (rInA X.K false) := by
  intro pins s σ H x y v u Q I rx ry h
  obtain ⟨d, ds, hd, he, sd, q⟩ := h
  obtain ⟨as, r1⟩ := Dp.reads I d x v hd rx
  rcases he with ⟨he, se⟩ | ⟨he, se⟩
  · obtain ⟨bs, r2⟩ := Dp.reads I (.list ds) y u he ry
    exact SeqAt.in_list_reads r2 r1 (SeqAt.canLay_of_shaped se) (SeqAt.canLay_of_shaped sd) (room_in_shaped sd hu) ⟨.bl _, H, I, rfl, q⟩
  · obtain ⟨bs, r2⟩ := Dp.reads I (.tuple ds) y u he ry
    exact SeqAt.in_tuple_reads r2 r1 (SeqAt.canLay_of_shaped se) (SeqAt.canLay_of_shaped sd) (room_in_shaped sd hu) ⟨.bl _, H, I, rfl, q⟩
theorem op_ninA (hu : X.A.units + 65 < cLine) : OpR X (compareOp .NotIn) (rInA X.K true) := by
  intro pins s σ H x y v u Q I rx ry h
  obtain ⟨d, ds, hd, he, sd, q⟩ := h
  obtain ⟨as, r1⟩ := Dp.reads I d x v hd rx
  rcases he with ⟨he, se⟩ | ⟨he, se⟩
  · obtain ⟨bs, r2⟩ := Dp.reads I (.list ds) y u he ry
    exact SeqAt.notIn_list_reads r2 r1 (SeqAt.canLay_of_shaped se) (SeqAt.canLay_of_shaped sd) (room_in_shaped sd hu) ⟨.bl _, H, I, rfl, q⟩
  · obtain ⟨bs, r2⟩ := Dp.reads I (.tuple ds) y u he ry
    exact SeqAt.notIn_tuple_reads r2 r1 (SeqAt.canLay_of_shaped se) (SeqAt.canLay_of_shaped sd) (room_in_shaped sd hu) ⟨.bl _, H, I, rfl, q⟩
end
/-- the items of data that `in` looks through -/
def inX (o : O) : Option (List D) := match frz o with
  | .tup xs => some xs
  | .lst xs => some xs
  | .scr xs => some xs
  | _ => none
def oIn (neg : Bool) : List O → Option O
  | [a, b] => match inX b with
    | some xs => if SeqAt.shaped (pd (frz a)) && SeqAt.shaped (pd (frz b)) then some (.d (.bl (if neg then !xs.any fun z => deq z (frz a) else xs.any fun z => deq z (frz a)))) else none
    | none => none
  | _ => none
theorem pds_any (f : PyData → Bool) : ∀ xs : List D, (pds xs).any f = xs.any fun z => f (pd z)
  | [] => rfl
  | x :: xs => by simp only [pds, List.any_cons, pds_any f xs]
section
variable {K : PySem.W.Frag}
theorem s_in (neg : Bool) : OpS K (r2 (rInA K neg)) (oIn neg) := by
  intro Γ σ e τ stk G H vs os o Q rr ha ho k
  match ha with
  | .nil => simp [oIn] at ho
  | .cons _ .nil => simp [oIn] at ho
  | .cons _ (.cons _ (.cons _ _)) => simp [oIn] at ho
  | @OAll.cons _ _ _ v a _ _ h1 (@OAll.cons _ _ _ w b _ _ h2 .nil) =>
    simp only [oIn] at ho
    cases ex : inX b with
    | none => simp only [ex] at ho; cases ho
    | some xs =>
      simp only [ex] at ho
      by_cases hc : (SeqAt.shaped (pd (frz a)) && SeqAt.shaped (pd (frz b))) = true
      · rw [if_pos hc] at ho
        cases ho
        obtain ⟨f, h1⟩ := h1
        obtain ⟨g, h2⟩ := h2
        obtain ⟨c1, c2⟩ := Bool.and_eq_true_iff.mp hc
        have d1 := h1.dp rr.wd.sub
        have d2 := h2.dp rr.wd.sub
        have hq := k (.bl (if neg then !xs.any fun z => deq z (frz a) else xs.any fun z => deq z (frz a))) G H (rr.pushD (.bl _))
        refine ⟨pd (frz a), pds xs, d1, ?_, c1, ?_⟩
        · unfold inX at ex
          cases eb : frz b with
          | tup ys => rw [eb] at ex d2 c2; cases ex; exact .inr ⟨d2, c2⟩
          | lst ys => rw [eb] at ex d2 c2; cases ex; exact .inl ⟨d2, c2⟩
          | scr ys => rw [eb] at ex d2 c2; cases ex; exact .inl ⟨d2, c2⟩
          | _ => rw [eb] at ex; cases ex
        · rw [pds_any]
          exact hq
      · rw [if_neg hc] at ho
        cases ho
end
end Dn
end
section
set_option Elab.async false
set_option linter.all false
set_option maxRecDepth 100000
set_option maxHeartbeats 4000000
/-! Dn31: bit_length of an int. -/
namespace Dn
open PySem PySem.Spec L2 L2H
open PyProof.Rows hiding St
def oBits : O → Option O := fun o => (asI o).map fun i => .d (.int (Builtin.Int.intBits i : Nat))
section
variable {X : Cx} {W : WX} {np : Asm} {K : PySem.W.Frag}
theorem s_bits : OpS K (r1 fun x H Q => ∃ i, x = .int i ∧ Q (.int (Builtin.Int.intBits i : Nat)) H) (op1 oBits) := ops1 fun Γ σ e τ stk G H v a o Q rr ha ho k => by
  show ∃ i, v = .int i ∧ Q (.int (Builtin.Int.intBits i : Nat)) H
  unfold oBits at ho
  cases ei : asI a with
  | none => rw [ei] at ho; cases ho
  | some i =>
    rw [ei] at ho
    cases ho
    exact ⟨i, orep_int ha ei, k _ G H (rr.pushD (.int _))⟩
theorem de_bits {a : Expr} {k1 : AK} {apos pos : Pos} (ha : DK X W np a k1) (hbase : attributeBase a "bit_length" X.env (eval a X.env) = eval a X.env := by rfl) (hline : (apos.endLine == pos.line) = true := by rfl) : DE X W np (.Call (.Attribute a "bit_length" apos) [] [] pos) (mOp (op1 oBits) [k1]) := by
  obtain ⟨ta, p, s⟩ := ha.ex
  exact ⟨_, pe_bits p hbase hline, esnd_op (r := r1 fun x H Q => ∃ i, x = .int i ∧ Q (.int (Builtin.Int.intBits i : Nat)) H) (asnd_cons s asnd_nil) s_bits⟩
end
end Dn
end
section
set_option Elab.async false
set_option linter.all false
set_option maxRecDepth 100000
set_option maxHeartbeats 4000000
/-! Dn33: l.index(x) in a list of data of any depth. -/
namespace Dn
open PySem PySem.Spec L2 L2H
open PyProof.Rows hiding St
def findP (f : D → Bool) : List D → Nat → Option Nat
  | [], _ => none
  | y :: r, n => if f y = true then some n else findP f r (n + 1)
theorem findP_spec {f : D → Bool} : ∀ {r : List D} {n j : Nat}, findP f r n = some j → n ≤ j ∧ (∃ z, r[j - n]? = some z ∧ f z = true) ∧ ∀ m, m < j - n → ∀ z, r[m]? = some z → f z = false
  | [], _, _, h => by cases h
  | y :: r, n, j, h => by
    unfold findP at h
    by_cases e : f y = true
    · rw [if_pos e] at h
      cases h
      exact ⟨Nat.le_refl _, ⟨y, by rw [Nat.sub_self]; rfl, e⟩, fun m hm => by omega⟩
    · rw [if_neg e] at h
      obtain ⟨h1, ⟨z, hz, h2⟩, h3⟩ := findP_spec h
      have ej : j - n = (j - (n + 1)) + 1 := by omega
      refine ⟨by omega, ⟨z, by rw [ej, List.getElem?_cons_succ]; exact hz, h2⟩, fun m hm z hz => ?_⟩
      cases m with
      | zero =>
        cases hz
        exact Bool.eq_false_iff.mpr e
      | succ m =>
        rw [List.getElem?_cons_succ] at hz
        exact h3 m (by omega) z hz
def lstX (o : O) : Option (List D) := match frz o with
  | .lst xs => some xs
  | _ => none
def oIndexD : List O → Option O
  | [a, b] => match lstF a, lstX a with
    | some _, some xs => if SeqAt.shaped (pd (frz b)) && SeqAt.shaped (pd (.lst xs)) then (findP (fun z => deq z (frz b)) xs 0).map fun n => .d (.int n) else none
    | _, _ => none
  | _ => none
theorem pds_get : ∀ (xs : List D) (j : Nat), (pds xs)[j]? = xs[j]?.map pd
  | [], _ => rfl
  | x :: r, 0 => rfl
  | x :: r, j + 1 => by
    show (pds r)[j]? = _
    rw [pds_get r j]
    rfl
section
variable {K : PySem.W.Frag}
theorem s_indexD : LookS K (rIndexD K) oIndexD := by
  intro Γ σ e τ stk G H v o vs os z Q rr hv ha hf k
  match ha with
  | .nil => simp [oIndexD] at hf
  | .cons _ (.cons _ _) => simp [oIndexD] at hf
  | @OAll.cons _ _ _ w b _ _ hb .nil =>
    simp only [oIndexD] at hf
    cases e1 : lstF o with
    | none => simp only [e1] at hf; cases hf
    | some ys =>
      cases ex : lstX o with
      | none => simp only [e1, ex] at hf; cases hf
      | some xs =>
        simp only [e1, ex] at hf
        by_cases hc : (SeqAt.shaped (pd (frz b)) && SeqAt.shaped (pd (.lst xs))) = true
        · rw [if_pos hc] at hf
          cases e4 : findP (fun z => deq z (frz b)) xs 0 with
          | none => rw [e4] at hf; cases hf
          | some j =>
            rw [e4] at hf
            cases hf
            obtain ⟨c1, c2⟩ := Bool.and_eq_true_iff.mp hc
            obtain ⟨f, hb⟩ := hb
            have d2 := hb.dp rr.wd.sub
            obtain ⟨a, ws, rfl, sq, rp⟩ := lstF_of rr.wd.sub hv e1
            obtain ⟨g, hv⟩ := hv
            have d1 := hv.dp rr.wd.sub
            unfold lstX at ex
            cases eo : frz o with
            | lst us =>
              rw [eo] at ex d1
              cases ex
              obtain ⟨-, ⟨y, hy, h2⟩, h3⟩ := findP_spec e4
              rw [Nat.sub_zero] at hy h3
              refine ⟨a, w, pd (frz b), pds xs, j, pd y, rfl, rfl, d1, d2, c2, c1, by rw [pds_get, hy]; rfl, h2, fun m z' hm hz => ?_, k _ G H (rr.pushD (.int _))⟩
              rw [pds_get] at hz
              cases em : xs[m]? with
              | none => rw [em] at hz; cases hz
              | some y' =>
                rw [em] at hz
                cases hz
                exact h3 m hm y' em
            | _ => rw [eo] at ex; cases ex
        · rw [if_neg hc] at hf
          cases hf
end
end Dn
end
section
set_option Elab.async false
set_option linter.all false
set_option maxRecDepth 100000
set_option maxHeartbeats 4000000
/-! Dn34: try with several handlers that bind one name. -/
namespace Dn
open PySem PySem.Spec L2 L2N HandSPX
open PyProof.Rows hiding St
/-- the ends of a suite that lets go of slot i -/
def offE (i : Nat) (D : Ends) : Ends := ⟨fun τ K => D.nx (τ.set i none) K, D.rt, fun τ K => D.bk (τ.set i none) K, fun τ K => D.ct (τ.set i none) K⟩
abbrev HL := List (Value × (Addr → Value → Option Addr → TS))
def wAsM (K : PySem.W.Frag) (i : Nat) (Wo : WX) (D : Ends) : HL → WX
  | [] => Wo
  | p :: r => fun cls d σ H => ∃ b, PySem.W.exmOne K cls p.1 = some b ∧ (b = true → ∀ a, H a = none → p.2 a cls d (offE i D) (σ.set i (some (.ref a))) H) ∧ (b = false → wAsM K i Wo D r cls d σ H)
inductive HdsAs (X : Cx) (n : Str) : List ExceptHandler → HL → Prop
  | nil : HdsAs X n [] []
  | cons {x : Str} {c : Value} {ts : Addr → Value → Option Addr → TS} {b₀ : Stmt} {ss : List Stmt} {p q : Pos} {hds : List ExceptHandler} {l : HL} (named : Names X x c)
      (suite : ∀ (a : Addr) (oe : Obj) (cls : Value) (d : Option Addr) (pn : List (Addr × Obj)), L2N.Zn cls d oe → (∃ z, oe.data = .fields z) → PSs (X.suite a ((a, oe) :: pn)) (b₀ :: ss) (ts a cls d)) (more : HdsAs X n hds l) :
      HdsAs X n (.ExceptHandler (some (.Name x p)) (some n) (b₀ :: ss) q :: hds) ((c, ts) :: l)
section
variable {X : Cx} {n : Str} {i : Nat} {body : List Stmt} {h₀ : ExceptHandler} {hds : List ExceptHandler} {l : HL} {pos : Pos} {tb : WX → TS} {Wo : WX}
theorem ps_try_asM (hst : X.stack = X.env :: X.outer) (hfl : X.env.frame = some X.env.locals) (nd : X.N.Nodup) (hin : X.N[i]? = some n) (hlo : X.env.kindOf n = some .local) (tk : L2N.Takes X Wo)
    (inner : ∀ (W : WX) (pn : List (Addr × Obj)) (xe : Value → Shared → Prop), L2N.Takes (X.tr pn xe) W → PassesOwn (model X.prog X.w) X.A X.env xe → PSs (X.tr pn xe) body (tb W))
    (ho : HdsAs X n (h₀ :: hds) l) : PS X (.Try body (h₀ :: hds) [] [] pos) (fun D σ H => tb (wAsM X.K i Wo D l) D σ H) := by
  refine ⟨fun pins s σ H D I q0 => ?_⟩
  have oks := I.ok
  have frs_ : X.A.frames = some (X.env :: X.outer) := hst ▸ oks.frames
  have lcl : Loc X.env.scope n := .inl hlo
  refine wpAny_Try_except (wpAny_mono ((inner (wAsM X.K i Wo D l) (X.pn ++ pins) (fun e t1 => wpAny (model X.prog X.w) X.A (noteFrame e X.env) (fun _ t2 => wpAny (model X.prog X.w) X.A (setFlight e none) (fun _ t3 =>
    wpAny (model X.prog X.w) X.A (handleBy e X.env (h₀ :: hds)) (SP X pins D) X.xe t3) X.xe t2) X.xe t1) (fun u s' xx => ?_) PassesOwn.looking).run [] s σ H D (I.toTry _) q0) (fun f s1 q1 => ?_) fun _ _ z => z)
  · obtain ⟨a, B, sI, pins', σ', H', cls, d, rfl, Jt, nb, up, sky, na, os, ag, w⟩ := xx
    have J := Inv.ofTry Jt oks
    have skyX : Sky B (X.env :: X.outer) a (Zn cls d) X.env.locals s'.heap := hst ▸ sky
    show wpAny (model X.prog X.w) X.A (noteFrame (.ref a) X.env) _ _ _
    refine Sky.land Zn.steady frs_ hfl skyX fun g3 fly3 ups3 => ?_
    have JL : Inv X pins σ' H' { s' with heap := g3 } :=
      Inv.landed J nb fly3.1 (up.trans ups3) os ag
    obtain ⟨oe3, vs3, he3, hz3, hd3⟩ := fly3.there
    have frameNot : a ∉ frs (X.env :: X.outer) := fun hm => by
      obtain ⟨_, o', e', nf⟩ := fly3.2.2.1.mem hm
      cases he3.symm.trans e'
      exact nf _ hd3
    have nL : a ≠ X.env.locals := fun z => frameNot (List.mem_filterMap.mpr ⟨X.env, List.mem_cons_self, by rw [hfl, z]⟩)
    have nF : a ∉ X.fs := fun hm => by
      obtain ⟨e, he, z⟩ := List.mem_filterMap.mp hm
      exact frameNot (List.mem_filterMap.mpr ⟨e, List.mem_cons_of_mem _ he, z⟩)
    have SS := JL.suite he3 hd3 na nL nF
    have walk : ∀ {hs : List ExceptHandler} {m : HL}, HdsAs X n hs m → wAsM X.K i Wo D m cls d σ' H' → wpAny (model X.prog X.w) X.A (handleBy (.ref a) X.env hs) (SP X pins D) X.xe { s' with heap := g3 } := by
      intro hs m hk
      induction hk with
      | nil =>
        intro z
        refine wpAny_handleBy_nil ?_
        obtain ⟨_, _, _, oe, vs, T, oT, _, he, hz, hd, hT, _⟩ := id fly3
        unfold PySem.passOn
        refine wpAny_bind (wpAny_field he hd hT ?_)
        rw [if_neg (show ¬ ((Value.ref T == Value.none) = true) from by simp)]
        have fin : wpAny (model X.prog X.w) X.A (setFlight (.ref a) X.env.frame) (fun _ t4 => wpAny (model X.prog X.w) X.A (throw (.ref a) : Sem Flow) (SP X pins D) X.xe t4) X.xe { s' with heap := g3 } := by
          rw [hfl]
          exact HandSPX.setFlight_upZ fly3 fun g4 hh4 ups4 => wpAny_throw (tk _ _ ⟨a, B, sI, pins, σ', H', cls, d, rfl, J, nb, (up.trans ups3).trans ups4, .inr (.inr (hst ▸ hh4)), na, os, ag, z⟩)
        first | exact wpAny_bind (wpAny_pure (wpAny_bind fin)) | exact wpAny_bind fin
      | @cons x c ts b₀ ss p q hds2 l2 named suite more ih =>
        intro z
        obtain ⟨b, hb1, yes, no⟩ := z
        refine wpAny_handleBy_cons (codeAny_handlers_test ?_) (by intro k; cases k)
        have lookT : PySem.W.Looks (model X.prog X.w) g3 (typeOf (.ref a)) cls := fun A Q E t k k2 => wpAny_typeOf_ref (k _ _ he3) (hz3.1 ▸ k2)
        have meets := PySem.W.exm_one (M := model X.prog X.w) JL.kIn lookT hb1
        have test : ∀ {Q E : Value → Shared → Prop}, Q c { s' with heap := g3 } → wpAny (model X.prog X.w) (X.A.mark (some (.ref a))) (eval (.Name x p) X.env) Q E { s' with heap := g3 } := fun {Q E} k => by
          obtain ⟨hg, hdb, hm | ⟨hm, hv, hnn⟩⟩ := named
          · exact ld_glob (X := X.suite a ((a, oe3) :: (X.pn ++ pins))) SS hg hm k hdb
          · exact ld_blt (X := X.suite a ((a, oe3) :: (X.pn ++ pins))) SS hg hm hv k hnn hdb
        refine test (meets.here ?_)
        cases b with
        | false => exact ih (no rfl)
        | true =>
          refine codeAny_handlers_suite_as (HandSPX.lands_againZ fly3 fun g4 fly4 ups4 => ?_)
          have J4 : Inv X pins σ' H' { s' with heap := g4 } :=
            Inv.landed J nb fly4.1 ((up.trans ups3).trans ups4) os ag
          obtain ⟨oe4, vs4, he4, hz4, hd4⟩ := fly4.there
          refine store_ok (X := X.suite a ((a, oe4) :: (X.pn ++ pins))) (v := .ref a) (J4.suite he4 hd4 na nL nF) nd hin lcl rfl (fun s5 S5 => ?_) (.inr hlo)
          refine wpAny_mono ((suite a oe4 cls d (X.pn ++ pins) hz4 ⟨_, hd4⟩).run [] s5 _ H' _ S5 (yes rfl a na)) (fun f s6 q6 => ?_) (fun _ _ k => False.elim k)
          have gone : ∀ {σ6 : L2.St} {H6 : Hp} {Q : Shared → Prop}, Inv (X.suite a ((a, oe4) :: (X.pn ++ pins))) [] σ6 H6 s6 → (∀ s7, Inv X pins (σ6.set i none) H6 s7 → Q s7) → wpAny (model X.prog X.w) X.A (do bindName X.env n .none; unbindBehindTheSuite X.env n q) (fun _ s7 => Q s7) X.xe s6 := fun S6 k => gone_ok (S6.unsuite oks) nd hin hlo k
          cases f with
          | next =>
            obtain ⟨_, _, S6, k6⟩ := q6
            exact gone S6 fun _ J7 => ⟨_, _, J7, k6⟩
          | brk =>
            obtain ⟨_, _, S6, k6⟩ := q6
            exact gone S6 fun _ J7 => ⟨_, _, J7, k6⟩
          | cont =>
            obtain ⟨_, _, S6, k6⟩ := q6
            exact gone S6 fun _ J7 => ⟨_, _, J7, k6⟩
          | ret u =>
            obtain ⟨_, _, _, S6, r6, k6⟩ := q6
            exact gone S6 fun _ J7 => ⟨_, _, _, J7, r6, k6⟩
    exact walk ho w
  · cases f with
    | next =>
      obtain ⟨_, _, J', k⟩ := q1
      exact wpAny_execs_nil ⟨_, _, J'.ofTry oks, k⟩
    | brk =>
      obtain ⟨_, _, J', k⟩ := q1
      exact ⟨_, _, J'.ofTry oks, k⟩
    | cont =>
      obtain ⟨_, _, J', k⟩ := q1
      exact ⟨_, _, J'.ofTry oks, k⟩
    | ret u =>
      obtain ⟨_, _, _, J', r, k⟩ := q1
      exact ⟨_, _, _, J'.ofTry oks, r, k⟩
end
abbrev HM := List ((Str → Option Bool) × (Exc → MS))
/-- the handlers asked one by one -/
def hdN (i : Nat) (e : Env) (x : Exc) : HM → SR
  | [] => .exc x e
  | p :: r => match p.1 x.cls with
    | some true => if i < e.length then match p.2 x (e.set i none) with
      | .exc _ _ => .fail
      | r => finE i r
      else .fail
    | some false => hdN i e x r
    | none => .fail
def mTryM (hs : HM) (i : Nat) (b : MS) : MS := fun env => match b env with
  | .exc x e => hdN i e x hs
  | r => r
section
variable {X : Cx} {W : WX}
inductive HdsD (X : Cx) (nl : List Nat) (i : Nat) (n : Str) : List ExceptHandler → List Value → HM → Prop
  | nil : HdsD X nl i n [] [] []
  | cons {x : Str} {c : Value} {b₀ : Stmt} {ss : List Stmt} {p q : Pos} {hds : List ExceptHandler} {cs : List Value} {hm : HM} {cat : Str → Option Bool} {mh : Exc → MS} (named : Names X x c)
      (hcat : ∀ (cls : Str) (C : Addr) (b : Bool), X.mg cls = some (.ref C) → cat cls = some b → PySem.W.exmOne X.K (.ref C) c = some b)
      (hsu : ∀ (xx : Exc) (a : Addr) (oe : Obj) (cls : Value) (d : Option Addr) (pn : List (Addr × Obj)), L2N.Zn cls d oe → (∃ vs, oe.data = .fields vs) → DSs (X.suite a ((a, oe) :: pn)) W0 (hAsm X.K X.mg nl i a xx cls d) (b₀ :: ss) (mh xx))
      (more : HdsD X nl i n hds cs hm) : HdsD X nl i n (.ExceptHandler (some (.Name x p)) (some n) (b₀ :: ss) q :: hds) (c :: cs) ((cat, mh) :: hm)
def hlOf (X : Cx) : List ExceptHandler → List Value → HL
  | .ExceptHandler _ _ ss _ :: hs, c :: cs => (c, fun a cls d D σ H => ∀ (oe : Obj) (pn : List (Addr × Obj)), L2N.Zn cls d oe → (∃ vs, oe.data = .fields vs) → ∃ t, PSs (X.suite a ((a, oe) :: pn)) ss t ∧ t D σ H) :: hlOf X hs cs
  | _, _ => []
theorem HdsD.as {nl : List Nat} {i : Nat} {n : Str} : ∀ {hds : List ExceptHandler} {cs : List Value} {hm : HM}, HdsD X nl i n hds cs hm → HdsAs X n hds (hlOf X hds cs)
  | _, _, _, .nil => .nil
  | _, _, _, .cons named _ _ more => .cons named (fun a oe cls d pn hz hd => ⟨fun pins s σ H D I h => by
      obtain ⟨t, p, q⟩ := h oe pn hz hd
      exact p.run pins s σ H D I q⟩) more.as
theorem HdsD.sound {nl : List Nat} {i : Nat} {n : Str} (hin : i ∉ nl) {Γ : Ctx} {D : Ends} {σ' : L2.St} {e : Env} {G' H' : Hp} {cc : Value} {d : Option Addr} {xx : Exc} (hp : PinOk Γ (asm nl)) (r' : R X.K Γ σ' e [] [] G' H') (xr : XRep X.K X.mg G' H' xx cc d) :
    ∀ {hds : List ExceptHandler} {cs : List Value} {hm : HM}, HdsD X nl i n hds cs hm → SRQ X.K X.mg W Γ D (hdN i e xx hm) → wAsM X.K i W D (hlOf X hds cs) cc d σ' H'
  | _, _, _, .nil, h => h σ' cc d G' H' r' xr
  | _, _, _, @HdsD.cons _ _ _ _ x c b₀ ss p q hds cs hm cat mh named hcat hsu more, h => by
    obtain ⟨C, dd, fs, e1, e2, e3, e4, e5, e6⟩ := id xr
    subst e1
    simp only [hdN] at h
    cases ec : cat xx.cls with
    | none =>
      simp only [ec] at h
      exact False.elim h
    | some b =>
      refine ⟨b, hcat _ _ _ e2 ec, fun hbt a na => ?_, fun hbf => ?_⟩
      · subst hbt
        simp only [ec] at h
        intro oe pn hz hd
        obtain ⟨t2, p2, s2⟩ := (hsu xx a oe (.ref C) d pn hz hd).ex
        refine ⟨t2, p2, ?_⟩
        have pn0 : Γ.pin i = none := by
          cases z : Γ.pin i with
          | none => rfl
          | some v => exact absurd (hp.1 i v z) hin
        by_cases hlen : i < e.length
        · rw [if_pos hlen] at h
          obtain ⟨Pp, rr1, kb⟩ := r'.rebase
          refine s2 _ _ _ _ _ _ ⟨fun j v z => ?_, if_pos rfl, fun _ => ⟨C, dd, fs, rfl, e2, e3, e4, e5, e6⟩⟩ (R.hold (a := a) rr1 pn0 hlen) ?_
          · by_cases ej : j = i
            · exact ej ▸ List.mem_cons_self
            · dsimp only at z
              rw [if_neg ej] at z
              exact List.mem_cons_of_mem _ (hp.1 j v z)
          · cases eh : mh xx (e.set i none) with
            | nx e3 =>
              simp only [eh] at h
              exact fun _ G2 H2 z => h _ G2 H2 (kb _ _ _ _ _ _ (R.unhold z pn0))
            | rt o e3 =>
              simp only [eh] at h
              exact fun _ v G2 H2 z => h _ v G2 H2 (kb _ _ _ _ _ _ (R.unhold z pn0))
            | bk e3 =>
              simp only [eh] at h
              exact fun _ G2 H2 z => h _ G2 H2 (kb _ _ _ _ _ _ (R.unhold z pn0))
            | ct e3 =>
              simp only [eh] at h
              exact fun _ G2 H2 z => h _ G2 H2 (kb _ _ _ _ _ _ (R.unhold z pn0))
            | exc x3 e3 =>
              simp only [eh] at h
              exact False.elim h
            | fail =>
              simp only [eh] at h
              exact False.elim h
        · rw [if_neg hlen] at h
          exact False.elim h
      · subst hbf
        simp only [ec] at h
        exact HdsD.sound hin hp r' xr more h
theorem ds_tryM {n : Str} {i : Nat} {body : List Stmt} {h₀ : ExceptHandler} {hds : List ExceptHandler} {cs : List Value} {hm : HM} {pos : Pos} {mb : MS} {nl : List Nat} (hs : X.stack = X.env :: X.outer) (hf : X.env.frame = some X.env.locals) (hN : X.N.Nodup) (hi : X.N[i]? = some n) (hln : X.env.kindOf n = some .local) (tk : L2N.Takes X W) (hin : i ∉ nl)
    (hb : ∀ (W : WX) (pn : List (Addr × Obj)) (xe : Value → Shared → Prop), L2N.Takes (X.tr pn xe) W → PassesOwn (model X.prog X.w) X.A X.env xe → DSs (X.tr pn xe) W (asm nl) body mb)
    (hh : HdsD X nl i n (h₀ :: hds) cs hm) : DS X W (asm nl) (.Try body (h₀ :: hds) [] [] pos) (mTryM hm i mb) := by
  refine ⟨_, ps_try_asM (tb := fun W => fun D σ H => ∀ (pn : List (Addr × Obj)) (xe : Value → Shared → Prop), L2N.Takes (X.tr pn xe) W → PassesOwn (model X.prog X.w) X.A X.env xe → ∃ t, PSs (X.tr pn xe) body t ∧ t D σ H) hs hf hN hi hln tk (fun W pn xe tk po => ⟨fun pins s σ H D I h => ?_⟩) hh.as, fun Γ σ env G H D hp r h => ?_⟩
  · obtain ⟨t, p, q⟩ := h pn xe tk po
    exact p.run pins s σ H D I q
  · intro pn xe tk' po
    obtain ⟨t, p, s⟩ := (hb _ pn xe tk' po).ex
    refine ⟨t, p, s Γ σ env G H D hp r ?_⟩
    unfold mTryM at h
    cases eb : mb env with
    | exc xx e =>
      simp only [eb] at h
      exact fun σ' cc d G' H' r' xr => HdsD.sound (X := X) hin hp r' xr hh h
    | nx e =>
      simp only [eb] at h
      exact h
    | rt o e =>
      simp only [eb] at h
      exact h
    | bk e =>
      simp only [eb] at h
      exact h
    | ct e =>
      simp only [eb] at h
      exact h
    | fail =>
      simp only [eb] at h
      exact False.elim h
end
end Dn
end
section
set_option Elab.async false
set_option linter.all false
set_option maxRecDepth 100000
set_option maxHeartbeats 4000000
/-! Dn35: list.reverse, bool(x), a op b op c, range down, reversed(range(n)), isinstance(x, (T, U)). -/
namespace Dn
open PySem PySem.Spec L2
open PyProof.Rows hiding St
section
variable {X : Cx} {W : WX} {np : Asm} {K : PySem.W.Frag} {mg : Str → Option Value}
theorem zip_rev {α β : Type} : ∀ {a : List α} {b : List β}, a.length = b.length → a.reverse.zip b.reverse = (a.zip b).reverse
  | [], [], _ => rfl
  | x :: a, y :: b, h => by
    rw [List.reverse_cons, List.reverse_cons, List.zip_append (by rw [List.length_reverse, List.length_reverse]; exact Nat.succ.inj h), zip_rev (Nat.succ.inj h), List.zip_cons_cons]
    show _ = ((x, y) :: a.zip b).reverse
    rw [List.reverse_cons]
    rfl
def fRev (os as : List O) : Option (O × List O) := match as with
  | [] => some (.d .non, os.reverse)
  | _ => none
theorem s_rev : MutS K rReverse fRev := by
  intro Γ σ e τ stk G H p as ao os o os' Q r hl hf k
  unfold fRev at hf
  split at hf
  · cases hf
    match as, hl with
    | [], _ =>
      obtain ⟨vs, hp, hlv, rr⟩ := R.relist (as := []) (ao := []) r rfl
      refine ⟨p, vs, rfl, rfl, hp, ?_⟩
      have r2 := rr [] vs.reverse [] os.reverse _ rfl (by simp [hlv]) (.refl _) (by
        rw [zip_rev hlv]
        exact List.Perm.append_left _ (List.reverse_perm _).symm)
      exact k _ _ _ (R.pushD (x := .non) r2 .non)
  · cases hf
abbrev oBool := op1 fun a => match a with
  | .d (.int i) => some (.d (.bl (i != 0)))
  | .d (.bl b) => some (.d (.bl b))
  | _ => none
theorem s_bool : OpS K (fun xs H Q => (∃ i, xs = [.int i] ∧ Q (.bl (i != 0)) H) ∨ ∃ k, xs = [.bl k] ∧ Q (.bl k) H) oBool := ops1 fun Γ σ e τ stk G H v a o Q rr h ho k => by
  obtain ⟨f, h⟩ := h
  cases h with
  | d h =>
    cases h with
    | int i =>
      cases ho
      exact .inl ⟨i, rfl, k _ G H (rr.pushD (.bl _))⟩
    | bl b =>
      cases ho
      exact .inr ⟨b, rfl, k _ G H (rr.pushD (.bl _))⟩
    | _ => cases ho
  | l => cases ho
  | t => cases ho
/-! a op n op c, n a name -/
theorem chain_to {r r' : R2} {ta tc : TE} {j : Nat} {σ : St} {H : Hp} {Q : VK}
    (h : ta σ H fun x H1 => tVar j σ H1 fun y H2 => r x y H2 fun z H3 => ∃ k, z = .bl k ∧ if k = true then (tVar j σ H3 fun y' H4 => tc σ H4 fun z' H5 => r' y' z' H5 Q) else Q z H3) : tChain r r' ta (tVar j) tc σ H Q := by
  unfold tChain
  refine Eq.mp ?_ h
  congr 1
  funext x H1
  unfold tVar
  apply propext
  constructor
  · rintro ⟨v, hv, q⟩
    refine ⟨v, hv, ?_⟩
    refine Eq.mp ?_ q
    congr 1
    funext z H3
    apply propext
    constructor
    · rintro ⟨k, rfl, q⟩
      refine ⟨k, rfl, ?_⟩
      cases k with
      | true =>
        rw [if_pos rfl] at q ⊢
        obtain ⟨v', hv', q⟩ := q
        rw [hv] at hv'
        cases hv'
        exact q
      | false =>
        rw [if_neg Bool.false_ne_true] at q ⊢
        exact q
    · rintro ⟨k, rfl, q⟩
      refine ⟨k, rfl, ?_⟩
      cases k with
      | true =>
        rw [if_pos rfl] at q ⊢
        exact ⟨v, hv, q⟩
      | false =>
        rw [if_neg Bool.false_ne_true] at q ⊢
        exact q
  · rintro ⟨v, hv, q⟩
    refine ⟨v, hv, ?_⟩
    refine Eq.mp ?_ q
    congr 1
    funext z H3
    apply propext
    constructor
    · rintro ⟨k, rfl, q⟩
      refine ⟨k, rfl, ?_⟩
      cases k with
      | true =>
        rw [if_pos rfl] at q ⊢
        exact ⟨v, hv, q⟩
      | false =>
        rw [if_neg Bool.false_ne_true] at q ⊢
        exact q
    · rintro ⟨k, rfl, q⟩
      refine ⟨k, rfl, ?_⟩
      cases k with
      | true =>
        rw [if_pos rfl] at q ⊢
        obtain ⟨v', hv', q⟩ := q
        rw [hv] at hv'
        cases hv'
        exact q
      | false =>
        rw [if_neg Bool.false_ne_true] at q ⊢
        exact q
theorem esnd_chain {op op' : CmpOp} {r r' : R2} {f f' : List O → Option O} {ta tc : TE} {k1 k3 : AK} {j : Nat} (ho : OpR X (compareOp op) r) (hs : OpS X.K (r2 r) f) (ho' : OpR X (compareOp op') r') (hs' : OpS X.K (r2 r') f') (sa : KSnd X.K X.mg W np ta k1) (sc : KSnd X.K X.mg W np tc k3) :
    ESnd X.K X.mg W np (tChain r r' ta (tVar j) tc) (mAnd (mOp f [k1, .nm j]) (mOp f' [.nm j, k3])) := by
  have kn : KSnd X.K X.mg W np (tVar j) (.nm j) := fun Γ σ env τ stk G H Q hp r h => by
    simp only [evalK] at h
    split at h
    · rename_i o he
      obtain ⟨v, f, e, q⟩ := r.slot he
      obtain ⟨f1, f2, c, s, n, m⟩ := r.ex
      exact ⟨v, e, h v G H ⟨r.wd, r.pin, f1, f2, c, .skip s, n, m⟩ e⟩
    · exact False.elim h
  have s1 := esnd_op2 sa kn hs
  have s2 := esnd_op2 kn sc hs'
  refine fun Γ σ env τ stk G H Q hp rr h => chain_to ?_
  exact s1 Γ σ env τ stk G H _ hp rr (h.onB.imp fun o e ⟨c, eo, q⟩ v G' H' r' => by
    subst eo
    obtain rfl := r'.topB
    refine ⟨c, rfl, ?_⟩
    cases c with
    | true =>
      rw [if_pos rfl] at q ⊢
      exact s2 Γ σ e τ stk G' H' Q hp r'.pop q
    | false =>
      rw [if_neg Bool.false_ne_true] at q ⊢
      exact q _ G' H' (r'.pop.pushD (.bl _)))
theorem de_chain {op op' : CmpOp} {r r' : R2} {f f' : List O → Option O} {x : Str} {a c : Expr} {q pos : Pos} {k1 k3 : AK} (j : Nat) (ho : OpR X (compareOp op) r) (hs : OpS X.K (r2 r) f) (ho' : OpR X (compareOp op') r') (hs' : OpS X.K (r2 r') f') (ha : DK X W np a k1) (hc : DK X W np c k3)
    (hN : X.N[j]? = some x := by rfl) (hv : Vis X.env.scope x := by first | exact Or.inl rfl | exact Or.inr (Or.inl rfl) | exact Or.inr (Or.inr rfl)) (hd : (x == ("__debug__" : Str)) = false := by decide) (hcd : (x == ("__classdict__" : Str)) = false := by decide)
    (hm : lastMarks [op, op'] [.Name x q, c] = false := by with_unfolding_all rfl) : DE X W np (.Compare a [op, op'] [.Name x q, c] pos) (mAnd (mOp f [k1, .nm j]) (mOp f' [.nm j, k3])) := by
  obtain ⟨ta, pa, sa⟩ := ha.ex
  obtain ⟨tc, pc, sc⟩ := hc.ex
  exact ⟨_, pe_chain ho ho' pa (pe_var (i := j) hN hv hd hcd) pc hm, esnd_chain ho hs ho' hs' sa sc⟩
/-! hi, hi - 1, .. -/
def dnD (hi : Int) (n : Nat) : List D := (List.range n).map fun (i : Nat) => D.int (hi - i)
theorem wk_down {G0 : Hp} {hi : Int} {n : Nat} : Wk K G0 (Itc hi (-1) n) (dnD hi n) := by
  intro G H s1 s2
  have hl : (dnD hi n).length = n := by unfold dnD; rw [List.length_map, List.length_range]
  refine ⟨fun i h => by rw [hl] at h; exact h, by rw [hl]; exact Nat.le_refl _, fun i x hx v H' y => ?_⟩
  obtain ⟨e1, e2⟩ := y
  have h : i < n := by
    have := (List.getElem?_eq_some_iff.mp hx).1
    rw [hl] at this
    exact this
  unfold dnD at hx
  rw [List.getElem?_map, List.getElem?_range h] at hx
  cases hx
  subst e2
  refine .inl ⟨e1, ?_⟩
  rw [show hi + (i : Int) * -1 = hi - i by omega]
  exact .int _
def mRgB (ks : List AK) : Env → Rs (List D) := fun env => match evalA ks env with
  | .ok cs e => match resA ks cs e with
    | some [a, b, c] => match asI a, asI b, asI c with
      | some i, some j, some (-1) => if rgOk i && rgOk j then .ok (dnD i (i - j).toNat) e else .fail
      | _, _, _ => .fail
    | _ => .fail
  | .exc x e => .exc x e
  | .fail => .fail
theorem di_range3 {tg a b c : Expr} {k k' k2 : AK} {p pos : Pos} (hm : X.mg "range" = none) (h : DA X W np [a, b, c] [k, k', k2]) (hg : Gl X "range" := by rfl) (hs : starEach [a, b, c] X.env = (false, eval a X.env) :: starEach [b, c] X.env := by rfl)
    (hpl : (backTo pos (starEach [b, c] X.env)).any (·.1) = false := by rfl) : DI X W np tg (.Call (.Name "range" p) [a, b, c] [] pos) (mRgB [k, k', k2]) := by
  obtain ⟨t, p, s⟩ := h.ex
  refine ⟨_, pi_range3 hg hm p hs hpl, fun Γ σ env τ stk G H Q hp r h => s Γ σ env τ stk G H _ hp r ?_⟩
  unfold mRgB at h
  cases e1 : evalA [k, k', k2] env with
  | ok cs e =>
    simp only [e1] at h
    intro vs G1 H1 hl r1 n1
    cases e2 : resA [k, k', k2] cs e with
    | none => simp only [e2] at h; exact False.elim h
    | some os =>
      simp only [e2] at h
      have ha := oall_of (pre := []) (pres := []) rfl r1 hl n1 e2
      have ln := areNm_len n1
      match os, ha, ln, h with
      | _, @OAll.cons _ _ _ v a _ _ h1 (@OAll.cons _ _ _ w b _ _ h2 (@OAll.cons _ _ _ z c _ _ h3 .nil)), _, h =>
        simp only at h
        cases e3 : asI a with
        | none => simp only [e3] at h; exact False.elim h
        | some i =>
          cases e4 : asI b with
          | none => simp only [e3, e4] at h; exact False.elim h
          | some j =>
            cases e5 : asI c with
            | none => simp only [e3, e4, e5] at h; exact False.elim h
            | some m =>
              simp only [e3, e4, e5] at h
              split at h
              · rename_i i' j' ei ej em
                cases ei
                cases ej
                cases em
                split at h
                · rename_i hc
                  obtain rfl := orep_int h1 e3
                  obtain rfl := orep_int h2 e4
                  obtain rfl := orep_int h3 e5
                  obtain ⟨b1, b2⟩ := Bool.and_eq_true_iff.mp hc
                  obtain ⟨c1, c2⟩ := of_decide_eq_true (p := -(2 ^ 62) ≤ i ∧ i < 2 ^ 62) b1
                  obtain ⟨c3, c4⟩ := of_decide_eq_true (p := -(2 ^ 62) ≤ j ∧ j < 2 ^ 62) b2
                  exact ⟨i, j, -1, _, rfl, RgC.neg c1 c2 c3 c4, h _ G1 H1 (R.popN (by simp [hl]) r1) wk_down⟩
                · exact False.elim h
              · exact False.elim h
  | exc x e =>
    simp only [e1] at h
    exact h
  | fail =>
    simp only [e1] at h
    exact h
/-- reversed(range(n)) -/
def mRvRg (m : ME) : Env → Rs (List D) := fun env => match m env with
  | .ok o e => match asI o with
    | some n => if rgOk n then .ok (dnD (n - 1) n.toNat) e else .fail
    | none => .fail
  | .exc x e => .exc x e
  | .fail => .fail
theorem di_revRg {tg e : Expr} {m : ME} {p p2 pos pos2 : Pos} (h1 : X.mg "reversed" = none) (h2 : X.mg "range" = none) (h : DE X W np e m) (hg : Gl X "reversed" := by rfl) (hg2 : Gl X "range" := by rfl) (hs : starEach [e] X.env = (false, eval e X.env) :: starEach [] X.env := by rfl)
    (hs2 : starEach [.Call (.Name "range" p2) [e] [] pos2] X.env = (false, eval (.Call (.Name "range" p2) [e] [] pos2) X.env) :: starEach [] X.env := by rfl) : DI X W np tg (.Call (.Name "reversed" p) [.Call (.Name "range" p2) [e] [] pos2] [] pos) (mRvRg m) := by
  obtain ⟨t, pe, s⟩ := h.ex
  refine ⟨_, pi_revR hg h1 (prg_1 hg2 h2 pe hs) hs2, fun Γ σ env τ stk G H Q hp r h => s Γ σ env τ stk G H _ hp r ?_⟩
  unfold mRvRg at h
  cases q : m env with
  | ok o e =>
    simp only [q] at h
    intro v G' H' r'
    cases ea : asI o with
    | none => simp only [ea] at h; exact False.elim h
    | some n =>
      simp only [ea] at h
      obtain rfl := orep_int r'.top ea
      split at h
      · rename_i hc
        obtain ⟨c1, c2⟩ := of_decide_eq_true (p := -(2 ^ 62) ≤ n ∧ n < 2 ^ 62) hc
        refine ⟨n, rfl, by decide, by decide, c1, c2, h _ _ _ r'.pop ?_⟩
        rw [Int.sub_zero]
        by_cases n0 : 0 ≤ n
        · rw [show (0 : Int) + ((n.toNat : Nat) : Int) - 1 = n - 1 by omega]
          exact wk_down
        · rw [show n.toNat = 0 by omega]
          exact wk_down (hi := _) (n := 0) 
      · exact False.elim h
  | exc x e =>
    simp only [q] at h
    exact h
  | fail =>
    simp only [q] at h
    exact h
end
end Dn
end
section
set_option Elab.async false
set_option linter.all false
set_option maxRecDepth 100000
set_option maxHeartbeats 4000000
/-! Dn36: isinstance(x, (T, U)). -/
namespace Dn
open PySem PySem.Spec L2
open PyProof.Rows hiding St
section
variable {X : Cx} {W : WX} {np : Asm} {K : PySem.W.Frag}
theorem orep_ty2 {G H H' : Hp} (e : Sub G H') (m : ∀ a x, H a = some x → H' a = some x) {v : V} {o : O} (h : ∃ f, ORep K G H v o f) : TyX K H' v (.type (tyN o)) := by
  obtain ⟨f, h⟩ := h
  cases h with
  | d h =>
    cases h with
    | non => exact .base .non
    | bl b => exact .base (.bl b)
    | int b => exact .base (.int b)
    | str b => exact .base (.str b)
    | tup h r => exact sqT_ty (e.sqT h)
    | lst h r => exact sqL_ty (.inl (.inl (e _ _ h)))
    | scr h r => exact sqL_ty (e.sqL h)
  | l h g r => exact sqL_ty (.inl (.inl (m _ _ h)))
  | t h g r => exact sqT_ty (.inl (.inr ⟨_, e _ _ h⟩))
def kitBs (a : String) : List String → Option Bool
  | [] => some false
  | T :: r => match kitB a T with
    | some true => some true
    | some false => kitBs a r
    | none => none
theorem kitBs_any {a : String} : ∀ {Ts : List String} {b : Bool}, kitBs a Ts = some b → PySem.W.kitAny K (.type a) (Ts.map fun T => .type T) = some b
  | [], b, h => h
  | T :: r, b, h => by
    unfold kitBs at h
    cases e : kitB a T with
    | none => rw [e] at h; cases h
    | some c =>
      rw [e] at h
      cases c with
      | true =>
        cases h
        exact kitAny_cons (kit_ty e) (fun z => by cases z) fun _ => rfl
      | false => exact kitAny_cons (kit_ty e) (fun _ => kitBs_any h) fun z => by cases z
def oIsiT (Ts : List String) : List O → Option O
  | [a] => (kitBs (tyN a) Ts).map fun b => .d (.bl b)
  | _ => none
def rIsiT2 (K : PySem.W.Frag) (T U : String) : List V → Hp → VK → Prop
  | [x] => fun H Q => [V.ty T, .ty U].length ≤ sizeLine ∧ ∀ p, H p = none → rIsiT K [x, .ref p] (upd H p (.tup [.ty T, .ty U])) Q
  | _ => fun _ _ => False
theorem s_isiT {T U : String} : OpS K (rIsiT2 K T U) (oIsiT [T, U]) := by
  intro Γ σ e τ stk G H vs os o Q rr ha ho k
  match ha with
  | .nil => cases ho
  | .cons _ (.cons _ _) => cases ho
  | @OAll.cons _ _ _ v a _ _ h1 .nil =>
    cases eb : kitBs (tyN a) [T, U] with
    | none => simp [oIsiT, eb] at ho
    | some b =>
      simp [oIsiT, eb] at ho
      subst ho
      refine ⟨show 2 ≤ sizeLine by rw [sizeLine_eq]; decide, fun p hp => ?_⟩
      have r2 := rr.laid (o := .tup [.ty T, .ty U]) hp
      have mm : ∀ a x, H a = some x → upd H p (.tup [.ty T, .ty U]) a = some x := fun a x h => by
        unfold upd
        by_cases z : a = p
        · subst z
          rw [hp] at h
          cases h
        · simp [z, h]
      refine ⟨v, p, [.ty T, .ty U], _, _, b, rfl, by simp [upd], .cons (.ty T) (.cons (.ty U) .nil), orep_ty2 r2.wd.sub mm h1, kitBs_any eb, k _ G _ (r2.pushD (.bl b))⟩
theorem de_isiT {x y : Str} {a : Expr} {T U : String} {p q q2 q3 pos : Pos} {kk : Nat} {k : AK} (hi : X.mg "isinstance" = none) (hx : X.mg x = none) (hy : X.mg y = none) (ha : DK X W np a k) (hv : bootBuiltins x = some (.type T) := by decide +kernel) (hv2 : bootBuiltins y = some (.type U) := by decide +kernel) (hg : Gl X "isinstance" := by rfl) (hgx : Gl X x := by rfl) (hgy : Gl X y := by rfl)
    (hn : x ≠ "__name__" := by decide) (hdb : (x == ("__debug__" : Str)) = false := by decide) (hn2 : y ≠ "__name__" := by decide) (hdb2 : (y == ("__debug__" : Str)) = false := by decide)
    (he : starEach [a, .Tuple [.Name x q, .Name y q2] kk q3] X.env = (false, eval a X.env) :: starEach [.Tuple [.Name x q, .Name y q2] kk q3] X.env := by rfl) (he2 : starEach [.Tuple [.Name x q, .Name y q2] kk q3] X.env = (false, eval (.Tuple [.Name x q, .Name y q2] kk q3) X.env) :: starEach [] X.env := by rfl)
    (he3 : starEach [.Name x q, .Name y q2] X.env = (false, eval (.Name x q) X.env) :: starEach [.Name y q2] X.env := by rfl) (he4 : starEach [.Name y q2] X.env = (false, eval (.Name y q2) X.env) :: starEach [] X.env := by rfl)
    (hpl : (backTo pos (starEach [.Tuple [.Name x q, .Name y q2] kk q3] X.env)).any (·.1) = false := by rfl) :
    DE X W np (.Call (.Name "isinstance" p) [a, .Tuple [.Name x q, .Name y q2] kk q3] [] pos) (mOp (oIsiT [T, U]) [k]) := by
  obtain ⟨t, pe, s⟩ := ha.ex
  refine ⟨_, pe_callB (r := rIsiT X.K) call_isiT hg hi (by decide +kernel) (pa_cons pe (pa_cons (pe_tup (pa_cons (pe_bltn (v := .ty T) hgx hx hv rfl hn hdb) (pa_cons (pe_bltn (v := .ty U) hgy hy hv2 rfl hn2 hdb2) pa_nil (by exact he4)) (by exact he3))) pa_nil (by exact he2)) (by exact he)) (by decide) (by decide) (by exact he) (by exact hpl), ?_⟩
  exact esnd_op (r := rIsiT2 X.K T U) (asnd_cons s asnd_nil) s_isiT
end
end Dn
end
section
set_option Elab.async false
set_option linter.all false
set_option maxRecDepth 100000
set_option maxHeartbeats 4000000
/-! Dn37: True + 1. -/
namespace Dn
open PySem PySem.Spec L2
open PyProof.Rows hiding St
section
variable {X : Cx} {W : WX} {np : Asm} {K : PySem.W.Frag}
def rAddB : R2 := fun x y H Q => ∃ (k : Bool) (i : Int), x = .bl k ∧ y = .int i ∧ Q (.int ((if k = true then (1 : Int) else 0) + i)) H
theorem op_addB : OpR X (binaryOp .Add) rAddB := by
  intro pins s σ H x y v u Q I rx ry h
  obtain ⟨k, i, rfl, rfl, q⟩ := h
  cases rx
  obtain ⟨t, rfl⟩ := ry
  exact PySem.IntBool.add_bool_int ⟨.int _, H, I.tok _, ⟨_, rfl⟩, q⟩
def oAddB : List O → Option O
  | [.d (.bl k), b] => (asI b).map fun i => .d (.int ((if k = true then (1 : Int) else 0) + i))
  | _ => none
theorem two_addB : ∀ (os : List O) (o : O), oAddB os = some o → os.length = 2
  | [], _, h => by cases h
  | [a], _, h => by simp [oAddB] at h
  | [_, _], _, _ => rfl
  | a :: _ :: _ :: _, _, h => by simp [oAddB] at h
theorem s_addB : OpS K (r2 rAddB) oAddB := by
  intro Γ σ e τ stk G H vs os o Q rr ha ho k
  match ha with
  | .nil => simp [oAddB] at ho
  | .cons _ .nil => simp [oAddB] at ho
  | .cons _ (.cons _ (.cons _ _)) => simp [oAddB] at ho
  | @OAll.cons _ _ _ v a _ _ h1 (@OAll.cons _ _ _ w b _ _ h2 .nil) =>
    obtain ⟨f, h1⟩ := h1
    cases h1 with
    | l => simp [oAddB] at ho
    | t => simp [oAddB] at ho
    | d h =>
      cases h with
      | bl c =>
        simp only [oAddB] at ho
        cases e1 : asI b with
        | none => rw [e1] at ho; cases ho
        | some i =>
          rw [e1] at ho
          cases ho
          obtain rfl := orep_int h2 e1
          exact ⟨c, i, rfl, rfl, k _ G H (rr.pushD (.int _))⟩
      | _ => simp [oAddB] at ho
theorem two_plus : ∀ (os : List O) (o : O), oPlus os = some o → os.length = 2 := two_or two_fI2 (two_or two_cat two_catL)
/-- +, a flag on the left too -/
def oPlusB : List O → Option O := orO oPlus oAddB
theorem op_plusB : OpR X (binaryOp .Add) (orR (rPlus X.K) rAddB) := opr_or op_plus op_addB
theorem s_plusB : OpS K (r2 (orR (rPlus K) rAddB)) oPlusB := ops_or s_plus s_addB two_addB two_plus
def mtupleRg (m : ME) : ME := fun env => match m env with
  | .ok o e => match asI o with
    | some n => if rgOk n && decide (n.toNat ≤ line) then .ok (.d (.tup (rgD 0 n.toNat))) e else .fail
    | none => .fail
  | .exc x e => .exc x e
  | .fail => .fail
theorem de_tupleRg {e : Expr} {m : ME} {p p2 pos pos2 : Pos} (h1 : X.mg "tuple" = none) (h2 : X.mg "range" = none) (h : DE X W np e m) (hc : X.calm = true := by rfl) (hg : Gl X "tuple" := by rfl) (hg2 : Gl X "range" := by rfl) (hs : starEach [e] X.env = (false, eval e X.env) :: starEach [] X.env := by rfl)
    (hs2 : starEach [.Call (.Name "range" p2) [e] [] pos2] X.env = (false, eval (.Call (.Name "range" p2) [e] [] pos2) X.env) :: starEach [] X.env := by rfl) : DE X W np (.Call (.Name "tuple" p) [.Call (.Name "range" p2) [e] [] pos2] [] pos) (mtupleRg m) := by
  obtain ⟨t, pe, s⟩ := h.ex
  refine ⟨_, pe_tupRg hc hg h1 (prg_1 hg2 h2 pe hs) hs2, fun Γ σ env τ stk G H Q hp r h => s Γ σ env τ stk G H _ hp r ?_⟩
  unfold mtupleRg at h
  cases q : m env with
  | ok o e =>
    simp only [q] at h
    intro v G' H' r'
    cases ea : asI o with
    | none => simp only [ea] at h; exact False.elim h
    | some n =>
      simp only [ea] at h
      obtain rfl := orep_int r'.top ea
      split at h
      · rename_i hc
        obtain ⟨b1, b2⟩ := Bool.and_eq_true_iff.mp hc
        obtain ⟨c1, c2⟩ := of_decide_eq_true (p := -(2 ^ 62) ≤ n ∧ n < 2 ^ 62) b1
        have c3 : n.toNat ≤ 16777216 := of_decide_eq_true b2
        refine ⟨n, rfl, ⟨by decide, by decide, c1, c2, by rw [Int.sub_zero]; exact c3⟩, fun q hq => ?_⟩
        exact h _ _ _ (r'.pop.mkT (rgV_reps n) hq)
      · exact False.elim h
  | exc x e =>
    simp only [q] at h
    exact h
  | fail =>
    simp only [q] at h
    exact h
theorem dt_chain {op op' : CmpOp} {r r' : R2} {f f' : List O → Option O} {x : Str} {a c : Expr} {q pos : Pos} {k1 k3 : AK} (j : Nat) (ho : OpR X (compareOp op) r) (hs : OpS X.K (r2 r) f) (ho' : OpR X (compareOp op') r') (hs' : OpS X.K (r2 r') f') (ha : DK X W np a k1) (hc : DK X W np c k3)
    (hN : X.N[j]? = some x := by rfl) (hv : Vis X.env.scope x := by first | exact Or.inl rfl | exact Or.inr (Or.inl rfl) | exact Or.inr (Or.inr rfl)) (hd : (x == ("__debug__" : Str)) = false := by decide) (hcd : (x == ("__classdict__" : Str)) = false := by decide)
    (hm : lastMarks [op, op'] [.Name x q, c] = false := by with_unfolding_all rfl) : DT X W np (.Compare a [op, op'] [.Name x q, c] pos) (mB (mAnd (mOp f [k1, .nm j]) (mOp f' [.nm j, k3]))) := by
  obtain ⟨ta, pa, sa⟩ := ha.ex
  obtain ⟨tc, pc, sc⟩ := hc.ex
  exact ⟨_, pt_chain ho ho' pa (pe_var (i := j) hN hv hd hcd) pc hm, tsnd_val (esnd_chain ho hs ho' hs' sa sc)⟩
end
end Dn
end
section
set_option Elab.async false
set_option linter.all false
set_option maxRecDepth 100000
set_option maxHeartbeats 4000000
namespace K24
open PySem PySem.Spec L2 Dn
open PyProof.Rows hiding St
abbrev pw : PySem.Program := PySem.Challenge.pw_stoodthen_k24_whole_handed_lives_and_pap
def topS (i : Nat) : Stmt := pw.main.body.getD i (.Pass ⟨0, 0, 0, 0⟩)
abbrev s_is_integer : Stmt := topS 8
abbrev s_is_number : Stmt := topS 9
abbrev s_is_row : Stmt := topS 10
abbrev s_is_tour : Stmt := topS 11
abbrev s_is_view : Stmt := topS 12
abbrev s_asked_looks : Stmt := topS 14
abbrev s_moment_on : Stmt := topS 15
abbrev s_moment_back : Stmt := topS 16
abbrev s_early_moments : Stmt := topS 17
abbrev s_late_moments : Stmt := topS 18
abbrev s_life_span : Stmt := topS 19
abbrev s_answer_paper : Stmt := topS 21
abbrev s_are_moments : Stmt := topS 22
abbrev s_lets_answer : Stmt := topS 23
abbrev s__law_same : Stmt := topS 25
abbrev s__law_draws : Stmt := topS 26
abbrev s__law_take : Stmt := topS 27
abbrev s__law_drawn_life : Stmt := topS 28
abbrev s__law_order : Stmt := topS 29
abbrev s__law_built_life : Stmt := topS 30
abbrev s__law_life : Stmt := topS 31
abbrev s__law_view : Stmt := topS 32
abbrev s__law_fronts : Stmt := topS 33
abbrev s__law_turned : Stmt := topS 34
abbrev s__law_early : Stmt := topS 35
abbrev s__law_late : Stmt := topS 36
abbrev s__law_span : Stmt := topS 37
abbrev s__law_moments : Stmt := topS 38
abbrev s__law_paper : Stmt := topS 39
abbrev s__law_asked : Stmt := topS 40
abbrev s__law_bent : Stmt := topS 41
abbrev s__law_thing : Stmt := topS 42
abbrev s__law_filled : Stmt := topS 43
abbrev s__law_refused_right : Stmt := topS 44
abbrev s__law_view_right : Stmt := topS 45
abbrev s_law : Stmt := topS 46
abbrev sI_InvalidPaper : Stmt := inClass (topS 4) 0
abbrev sI_NotUsable : Stmt := inClass (topS 5) 0
abbrev sI_Unseen : Stmt := inClass (topS 6) 0
/-- the own exceptions that are raised -/
def xKnown (c : Str) : Bool := decide (c = "InvalidPaper") || decide (c = "NotUsable") || decide (c = "Unseen")
def xKnown_at (c : Str) : Bool := decide (c = "InvalidPaper") || decide (c = "NotUsable")
def xKnown_place (c : Str) : Bool := decide (c = "Unseen")
def xKnown_word (c : Str) : Bool := decide (c = "InvalidPaper") || decide (c = "NotUsable")
def xCat_InvalidPaper (c : Str) : Option Bool := if c = "InvalidPaper" then some true else if c = "NotUsable" then some false else if c = "Unseen" then some false else none
def xCat_NotUsable (c : Str) : Option Bool := if c = "InvalidPaper" then some false else if c = "NotUsable" then some true else if c = "Unseen" then some false else none
def xCat_Unseen (c : Str) : Option Bool := if c = "InvalidPaper" then some false else if c = "NotUsable" then some false else if c = "Unseen" then some true else none
structure Txt (K : PySem.W.Frag) (mg : Str → Option Value) (ad : Nat → Addr) (fdn : Nat → FuncData) : Prop where
  F_is_integer : Fun K "is_integer" "is_integer" s_is_integer (ad 8) (fdn 8)
  m_is_integer : mg "is_integer" = some (.ref (ad 8))
  b_is_integer : Binds K (fdn 8) ["thing"] []
  F_is_number : Fun K "is_number" "is_number" s_is_number (ad 9) (fdn 9)
  m_is_number : mg "is_number" = some (.ref (ad 9))
  b_is_number : Binds K (fdn 9) ["thing"] []
  F_is_row : Fun K "is_row" "is_row" s_is_row (ad 10) (fdn 10)
  m_is_row : mg "is_row" = some (.ref (ad 10))
  b_is_row : Binds K (fdn 10) ["dials", "thing"] []
  F_is_tour : Fun K "is_tour" "is_tour" s_is_tour (ad 11) (fdn 11)
  m_is_tour : mg "is_tour" = some (.ref (ad 11))
  b_is_tour : Binds K (fdn 11) ["dials", "thing"] []
  F_is_view : Fun K "is_view" "is_view" s_is_view (ad 12) (fdn 12)
  m_is_view : mg "is_view" = some (.ref (ad 12))
  b_is_view : Binds K (fdn 12) ["dials", "tour", "thing"] []
  F_asked_looks : Fun K "asked_looks" "asked_looks" s_asked_looks (ad 14) (fdn 14)
  m_asked_looks : mg "asked_looks" = some (.ref (ad 14))
  b_asked_looks : Binds K (fdn 14) ["life", "tour", "view"] []
  F_moment_on : Fun K "moment_on" "moment_on" s_moment_on (ad 15) (fdn 15)
  m_moment_on : mg "moment_on" = some (.ref (ad 15))
  b_moment_on : Binds K (fdn 15) ["life", "dial", "value", "moment"] []
  F_moment_back : Fun K "moment_back" "moment_back" s_moment_back (ad 16) (fdn 16)
  m_moment_back : mg "moment_back" = some (.ref (ad 16))
  b_moment_back : Binds K (fdn 16) ["life", "dial", "value", "moment"] []
  F_early_moments : Fun K "early_moments" "early_moments" s_early_moments (ad 17) (fdn 17)
  m_early_moments : mg "early_moments" = some (.ref (ad 17))
  b_early_moments : Binds K (fdn 17) ["life", "tour", "view"] []
  F_late_moments : Fun K "late_moments" "late_moments" s_late_moments (ad 18) (fdn 18)
  m_late_moments : mg "late_moments" = some (.ref (ad 18))
  b_late_moments : Binds K (fdn 18) ["life", "tour", "view"] []
  F_life_span : Fun K "life_span" "life_span" s_life_span (ad 19) (fdn 19)
  m_life_span : mg "life_span" = some (.ref (ad 19))
  b_life_span : Binds K (fdn 19) ["life", "tour", "view"] []
  F_answer_paper : Fun K "answer_paper" "answer_paper" s_answer_paper (ad 21) (fdn 21)
  m_answer_paper : mg "answer_paper" = some (.ref (ad 21))
  b_answer_paper : Binds K (fdn 21) ["life", "tour", "view"] []
  F_are_moments : Fun K "are_moments" "are_moments" s_are_moments (ad 22) (fdn 22)
  m_are_moments : mg "are_moments" = some (.ref (ad 22))
  b_are_moments : Binds K (fdn 22) ["life", "many", "thing"] []
  F_lets_answer : Fun K "lets_answer" "lets_answer" s_lets_answer (ad 23) (fdn 23)
  m_lets_answer : mg "lets_answer" = some (.ref (ad 23))
  b_lets_answer : Binds K (fdn 23) ["life", "tour", "view", "thing"] []
  F__law_same : Fun K "_law_same" "_law_same" s__law_same (ad 25) (fdn 25)
  m__law_same : mg "_law_same" = some (.ref (ad 25))
  b__law_same : Binds K (fdn 25) ["_law_told", "_law_due"] []
  F__law_draws : Fun K "_law_draws" "_law_draws" s__law_draws (ad 26) (fdn 26)
  m__law_draws : mg "_law_draws" = some (.ref (ad 26))
  b__law_draws : Binds K (fdn 26) ["_law_script"] []
  F__law_take : Fun K "_law_take" "_law_take" s__law_take (ad 27) (fdn 27)
  m__law_take : mg "_law_take" = some (.ref (ad 27))
  b__law_take : Binds K (fdn 27) ["_law_draws_here", "_law_many"] []
  F__law_drawn_life : Fun K "_law_drawn_life" "_law_drawn_life" s__law_drawn_life (ad 28) (fdn 28)
  m__law_drawn_life : mg "_law_drawn_life" = some (.ref (ad 28))
  b__law_drawn_life : Binds K (fdn 28) ["_law_draws_here"] []
  F__law_order : Fun K "_law_order" "_law_order" s__law_order (ad 29) (fdn 29)
  m__law_order : mg "_law_order" = some (.ref (ad 29))
  b__law_order : Binds K (fdn 29) ["_law_draws_here", "_law_size"] []
  F__law_built_life : Fun K "_law_built_life" "_law_built_life" s__law_built_life (ad 30) (fdn 30)
  m__law_built_life : mg "_law_built_life" = some (.ref (ad 30))
  b__law_built_life : Binds K (fdn 30) ["_law_draws_here"] []
  F__law_life : Fun K "_law_life" "_law_life" s__law_life (ad 31) (fdn 31)
  m__law_life : mg "_law_life" = some (.ref (ad 31))
  b__law_life : Binds K (fdn 31) ["_law_draws_here"] []
  F__law_view : Fun K "_law_view" "_law_view" s__law_view (ad 32) (fdn 32)
  m__law_view : mg "_law_view" = some (.ref (ad 32))
  b__law_view : Binds K (fdn 32) ["_law_draws_here", "_law_life_here", "_law_tour"] []
  F__law_fronts : Fun K "_law_fronts" "_law_fronts" s__law_fronts (ad 33) (fdn 33)
  m__law_fronts : mg "_law_fronts" = some (.ref (ad 33))
  b__law_fronts : Binds K (fdn 33) ["_law_life_here", "_law_tour", "_law_view_here", "_law_low", "_law_high"] []
  F__law_turned : Fun K "_law_turned" "_law_turned" s__law_turned (ad 34) (fdn 34)
  m__law_turned : mg "_law_turned" = some (.ref (ad 34))
  b__law_turned : Binds K (fdn 34) ["_law_life_here", "_law_tour", "_law_view_here"] []
  F__law_early : Fun K "_law_early" "_law_early" s__law_early (ad 35) (fdn 35)
  m__law_early : mg "_law_early" = some (.ref (ad 35))
  b__law_early : Binds K (fdn 35) ["_law_life_here", "_law_tour", "_law_view_here"] []
  F__law_late : Fun K "_law_late" "_law_late" s__law_late (ad 36) (fdn 36)
  m__law_late : mg "_law_late" = some (.ref (ad 36))
  b__law_late : Binds K (fdn 36) ["_law_life_here", "_law_tour", "_law_view_here"] []
  F__law_span : Fun K "_law_span" "_law_span" s__law_span (ad 37) (fdn 37)
  m__law_span : mg "_law_span" = some (.ref (ad 37))
  b__law_span : Binds K (fdn 37) ["_law_life_here", "_law_tour", "_law_view_here"] []
  F__law_moments : Fun K "_law_moments" "_law_moments" s__law_moments (ad 38) (fdn 38)
  m__law_moments : mg "_law_moments" = some (.ref (ad 38))
  b__law_moments : Binds K (fdn 38) ["_law_life_here", "_law_tour", "_law_thing_here"] []
  F__law_paper : Fun K "_law_paper" "_law_paper" s__law_paper (ad 39) (fdn 39)
  m__law_paper : mg "_law_paper" = some (.ref (ad 39))
  b__law_paper : Binds K (fdn 39) ["_law_life_here", "_law_tour", "_law_view_here", "_law_thing_here"] []
  F__law_asked : Fun K "_law_asked" "_law_asked" s__law_asked (ad 40) (fdn 40)
  m__law_asked : mg "_law_asked" = some (.ref (ad 40))
  b__law_asked : Binds K (fdn 40) ["_law_which", "_law_life_here", "_law_tour", "_law_view_here", "_law_thing_here", "_law_named"] []
  F__law_bent : Fun K "_law_bent" "_law_bent" s__law_bent (ad 41) (fdn 41)
  m__law_bent : mg "_law_bent" = some (.ref (ad 41))
  b__law_bent : Binds K (fdn 41) ["_law_draws_here", "_law_life_here", "_law_row"] []
  F__law_thing : Fun K "_law_thing" "_law_thing" s__law_thing (ad 42) (fdn 42)
  m__law_thing : mg "_law_thing" = some (.ref (ad 42))
  b__law_thing : Binds K (fdn 42) ["_law_draws_here", "_law_life_here", "_law_pair", "_law_other"] []
  F__law_filled : Fun K "_law_filled" "_law_filled" s__law_filled (ad 43) (fdn 43)
  m__law_filled : mg "_law_filled" = some (.ref (ad 43))
  b__law_filled : Binds K (fdn 43) ["_law_draws_here", "_law_life_here", "_law_tour", "_law_view_here"] []
  F__law_refused_right : Fun K "_law_refused_right" "_law_refused_right" s__law_refused_right (ad 44) (fdn 44)
  m__law_refused_right : mg "_law_refused_right" = some (.ref (ad 44))
  b__law_refused_right : Binds K (fdn 44) ["_law_draws_here", "_law_life_here", "_law_tour", "_law_view_here"] []
  F__law_view_right : Fun K "_law_view_right" "_law_view_right" s__law_view_right (ad 45) (fdn 45)
  m__law_view_right : mg "_law_view_right" = some (.ref (ad 45))
  b__law_view_right : Binds K (fdn 45) ["_law_draws_here", "_law_life_here", "_law_tour", "_law_view_here"] []
  F_law : Fun K "law" "law" s_law (ad 46) (fdn 46)
  m_law : mg "law" = some (.ref (ad 46))
  b_law : Binds K (fdn 46) ["_law_script"] []
  kw_answer_paper : KwB K (fdn 21) ["life", "tour", "view"]
  kw_early_moments : KwB K (fdn 17) ["life", "tour", "view"]
  kw_late_moments : KwB K (fdn 18) ["life", "tour", "view"]
  kw_lets_answer : KwB K (fdn 23) ["life", "tour", "view", "thing"]
  kw_life_span : KwB K (fdn 19) ["life", "tour", "view"]
  kp_early_moments_120 : KwP K (fdn 17) ["life", "tour", "view"] ["tour", "view", "life"] [2, 0, 1]
  kp_late_moments_210 : KwP K (fdn 18) ["life", "tour", "view"] ["view", "tour", "life"] [2, 1, 0]
  kp_life_span_201 : KwP K (fdn 19) ["life", "tour", "view"] ["view", "life", "tour"] [1, 2, 0]
  kp_answer_paper_102 : KwP K (fdn 21) ["life", "tour", "view"] ["tour", "life", "view"] [1, 0, 2]
  kp_lets_answer_3210 : KwP K (fdn 23) ["life", "tour", "view", "thing"] ["thing", "view", "tour", "life"] [3, 2, 1, 0]
  mC_StoodError : mg "StoodError" = some (.ref (ad 1))
  mC_PaperError : mg "PaperError" = some (.ref (ad 2))
  mC_CodeError : mg "CodeError" = some (.ref (ad 3))
  mC_InvalidPaper : mg "InvalidPaper" = some (.ref (ad 4))
  mC_NotUsable : mg "NotUsable" = some (.ref (ad 5))
  mC_Unseen : mg "Unseen" = some (.ref (ad 6))
  o_InvalidPaper : OexC K (ad 4)
  i_InvalidPaper : PySem.W.findIn K (.ref (ad 4)) "__init__" = some (some (.ref (ad 1004)))
  q_InvalidPaper : XfC K (ad 4)
  z_InvalidPaper : XiC K (ad 4)
  n_InvalidPaper_word : PySem.W.findIn K (.ref (ad 4)) "word" = some none
  n_InvalidPaper_at : PySem.W.findIn K (.ref (ad 4)) "at" = some none
  e_InvalidPaper_InvalidPaper : PySem.W.exmOne K (.ref (ad 4)) (.ref (ad 4)) = some true
  e_InvalidPaper_NotUsable : PySem.W.exmOne K (.ref (ad 4)) (.ref (ad 5)) = some false
  e_InvalidPaper_Unseen : PySem.W.exmOne K (.ref (ad 4)) (.ref (ad 6)) = some false
  o_NotUsable : OexC K (ad 5)
  i_NotUsable : PySem.W.findIn K (.ref (ad 5)) "__init__" = some (some (.ref (ad 1005)))
  q_NotUsable : XfC K (ad 5)
  z_NotUsable : XiC K (ad 5)
  n_NotUsable_word : PySem.W.findIn K (.ref (ad 5)) "word" = some none
  n_NotUsable_at : PySem.W.findIn K (.ref (ad 5)) "at" = some none
  e_NotUsable_InvalidPaper : PySem.W.exmOne K (.ref (ad 5)) (.ref (ad 4)) = some false
  e_NotUsable_NotUsable : PySem.W.exmOne K (.ref (ad 5)) (.ref (ad 5)) = some true
  e_NotUsable_Unseen : PySem.W.exmOne K (.ref (ad 5)) (.ref (ad 6)) = some false
  o_Unseen : OexC K (ad 6)
  i_Unseen : PySem.W.findIn K (.ref (ad 6)) "__init__" = some (some (.ref (ad 1006)))
  q_Unseen : XfC K (ad 6)
  z_Unseen : XiC K (ad 6)
  n_Unseen_place : PySem.W.findIn K (.ref (ad 6)) "place" = some none
  e_Unseen_InvalidPaper : PySem.W.exmOne K (.ref (ad 6)) (.ref (ad 4)) = some false
  e_Unseen_NotUsable : PySem.W.exmOne K (.ref (ad 6)) (.ref (ad 5)) = some false
  e_Unseen_Unseen : PySem.W.exmOne K (.ref (ad 6)) (.ref (ad 6)) = some true
  FI_InvalidPaper : Fun K "__init__" "InvalidPaper.__init__" sI_InvalidPaper (ad 1004) (fdn 1004)
  bI_InvalidPaper : Binds K (fdn 1004) ["self", "word", "at"] []
  t_InvalidPaper : PySem.W.typeIn K (.ref (ad 1004)) = some (.type "function")
  FI_NotUsable : Fun K "__init__" "NotUsable.__init__" sI_NotUsable (ad 1005) (fdn 1005)
  bI_NotUsable : Binds K (fdn 1005) ["self", "word", "at"] []
  t_NotUsable : PySem.W.typeIn K (.ref (ad 1005)) = some (.type "function")
  FI_Unseen : Fun K "__init__" "Unseen.__init__" sI_Unseen (ad 1006) (fdn 1006)
  bI_Unseen : Binds K (fdn 1006) ["self", "place"] []
  t_Unseen : PySem.W.typeIn K (.ref (ad 1006)) = some (.type "function")
  b_all : mg "all" = none
  b_bool : mg "bool" = none
  b_enumerate : mg "enumerate" = none
  b_int : mg "int" = none
  b_isinstance : mg "isinstance" = none
  b_len : mg "len" = none
  b_list : mg "list" = none
  b_range : mg "range" = none
  b_reversed : mg "reversed" = none
  b_sorted : mg "sorted" = none
  b_str : mg "str" = none
  b_tuple : mg "tuple" = none
  b_zip : mg "zip" = none
end K24
/-  -/
end
section
set_option Elab.async false
set_option linter.all false
set_option maxRecDepth 100000
set_option maxHeartbeats 4000000
namespace K24
open PySem PySem.Spec L2 L2H Dn
open PyProof.Rows hiding St
theorem sc_init_InvalidPaper : FnScope ["self", "word", "at"] ["self", "word", "at"] (defScope sI_InvalidPaper) := ⟨rfl, rfl, rfl, by decide +kernel, rfl, by decide +kernel, by decide +kernel⟩
theorem sc_init_NotUsable : FnScope ["self", "word", "at"] ["self", "word", "at"] (defScope sI_NotUsable) := ⟨rfl, rfl, rfl, by decide +kernel, rfl, by decide +kernel, by decide +kernel⟩
theorem sc_init_Unseen : FnScope ["self", "place"] ["self", "place"] (defScope sI_Unseen) := ⟨rfl, rfl, rfl, by decide +kernel, rfl, by decide +kernel, by decide +kernel⟩
theorem ok_init_InvalidPaper {P : Program} {w : World} {base : Heap} {K : PySem.W.Frag} {mg : Str → Option Value} {ad : Nat → Addr} {fdn : Nat → FuncData} (T : Txt K mg ad fdn) : FnOk P w K mg base (L2N.CX P w) 1 (ad 1004) (fdn 1004) ["self", "word", "at"] (spI (ad 4) ["word", "at"]) := ok_init2 T.o_InvalidPaper T.FI_InvalidPaper sc_init_InvalidPaper rfl T.n_InvalidPaper_word T.n_InvalidPaper_at (fun X p a b => pvI 0 a b rfl (.inl rfl)) (fun X a b => pvI 1 a b rfl (.inl rfl)) (fun X a b => pvI 2 a b rfl (.inl rfl)) (fun _ => rfl) (fun _ => rfl)
theorem ok_init_NotUsable {P : Program} {w : World} {base : Heap} {K : PySem.W.Frag} {mg : Str → Option Value} {ad : Nat → Addr} {fdn : Nat → FuncData} (T : Txt K mg ad fdn) : FnOk P w K mg base (L2N.CX P w) 1 (ad 1005) (fdn 1005) ["self", "word", "at"] (spI (ad 5) ["word", "at"]) := ok_init2 T.o_NotUsable T.FI_NotUsable sc_init_NotUsable rfl T.n_NotUsable_word T.n_NotUsable_at (fun X p a b => pvI 0 a b rfl (.inl rfl)) (fun X a b => pvI 1 a b rfl (.inl rfl)) (fun X a b => pvI 2 a b rfl (.inl rfl)) (fun _ => rfl) (fun _ => rfl)
theorem ok_init_Unseen {P : Program} {w : World} {base : Heap} {K : PySem.W.Frag} {mg : Str → Option Value} {ad : Nat → Addr} {fdn : Nat → FuncData} (T : Txt K mg ad fdn) : FnOk P w K mg base (L2N.CX P w) 1 (ad 1006) (fdn 1006) ["self", "place"] (spI (ad 6) ["place"]) := ok_init1 T.o_Unseen T.FI_Unseen sc_init_Unseen rfl T.n_Unseen_place (fun X a b => pvI 0 a b rfl (.inl rfl)) (fun X a b => pvI 1 a b rfl (.inl rfl)) (fun _ => rfl)
theorem Txt.xf_at {K : PySem.W.Frag} {mg : Str → Option Value} {ad : Nat → Addr} {fdn : Nat → FuncData} (T : Txt K mg ad fdn) : ∀ (c : Str) (C : Addr), mg c = some (.ref C) → xKnown_at c = true → XfC K C ∧ PySem.W.findIn K (.ref C) "at" = some none := by
  intro c C hm hk
  by_cases e : c = "InvalidPaper"
  · subst e
    obtain rfl : ad 4 = C := by
      have z := T.mC_InvalidPaper.symm.trans hm
      injection z with z
      injection z
    exact ⟨T.q_InvalidPaper, T.n_InvalidPaper_at⟩
  by_cases e : c = "NotUsable"
  · subst e
    obtain rfl : ad 5 = C := by
      have z := T.mC_NotUsable.symm.trans hm
      injection z with z
      injection z
    exact ⟨T.q_NotUsable, T.n_NotUsable_at⟩
  simp_all [xKnown_at]
theorem Txt.xf_place {K : PySem.W.Frag} {mg : Str → Option Value} {ad : Nat → Addr} {fdn : Nat → FuncData} (T : Txt K mg ad fdn) : ∀ (c : Str) (C : Addr), mg c = some (.ref C) → xKnown_place c = true → XfC K C ∧ PySem.W.findIn K (.ref C) "place" = some none := by
  intro c C hm hk
  by_cases e : c = "Unseen"
  · subst e
    obtain rfl : ad 6 = C := by
      have z := T.mC_Unseen.symm.trans hm
      injection z with z
      injection z
    exact ⟨T.q_Unseen, T.n_Unseen_place⟩
  simp_all [xKnown_place]
theorem Txt.xf_word {K : PySem.W.Frag} {mg : Str → Option Value} {ad : Nat → Addr} {fdn : Nat → FuncData} (T : Txt K mg ad fdn) : ∀ (c : Str) (C : Addr), mg c = some (.ref C) → xKnown_word c = true → XfC K C ∧ PySem.W.findIn K (.ref C) "word" = some none := by
  intro c C hm hk
  by_cases e : c = "InvalidPaper"
  · subst e
    obtain rfl : ad 4 = C := by
      have z := T.mC_InvalidPaper.symm.trans hm
      injection z with z
      injection z
    exact ⟨T.q_InvalidPaper, T.n_InvalidPaper_word⟩
  by_cases e : c = "NotUsable"
  · subst e
    obtain rfl : ad 5 = C := by
      have z := T.mC_NotUsable.symm.trans hm
      injection z with z
      injection z
    exact ⟨T.q_NotUsable, T.n_NotUsable_word⟩
  simp_all [xKnown_word]
theorem Txt.cat_InvalidPaper {K : PySem.W.Frag} {mg : Str → Option Value} {ad : Nat → Addr} {fdn : Nat → FuncData} (T : Txt K mg ad fdn) : ∀ (c : Str) (C : Addr) (b : Bool), mg c = some (.ref C) → xCat_InvalidPaper c = some b → PySem.W.exmOne K (.ref C) (.ref (ad 4)) = some b := by
  intro c C b hm hk
  by_cases e : c = "InvalidPaper"
  · subst e
    obtain rfl : ad 4 = C := by
      have z := T.mC_InvalidPaper.symm.trans hm
      injection z with z
      injection z
    obtain rfl : true = b := Option.some.inj ((show xCat_InvalidPaper "InvalidPaper" = some true by decide +kernel).symm.trans hk)
    exact T.e_InvalidPaper_InvalidPaper
  by_cases e : c = "NotUsable"
  · subst e
    obtain rfl : ad 5 = C := by
      have z := T.mC_NotUsable.symm.trans hm
      injection z with z
      injection z
    obtain rfl : false = b := Option.some.inj ((show xCat_InvalidPaper "NotUsable" = some false by decide +kernel).symm.trans hk)
    exact T.e_NotUsable_InvalidPaper
  by_cases e : c = "Unseen"
  · subst e
    obtain rfl : ad 6 = C := by
      have z := T.mC_Unseen.symm.trans hm
      injection z with z
      injection z
    obtain rfl : false = b := Option.some.inj ((show xCat_InvalidPaper "Unseen" = some false by decide +kernel).symm.trans hk)
    exact T.e_Unseen_InvalidPaper
  simp_all [xCat_InvalidPaper]
theorem Txt.cat_NotUsable {K : PySem.W.Frag} {mg : Str → Option Value} {ad : Nat → Addr} {fdn : Nat → FuncData} (T : Txt K mg ad fdn) : ∀ (c : Str) (C : Addr) (b : Bool), mg c = some (.ref C) → xCat_NotUsable c = some b → PySem.W.exmOne K (.ref C) (.ref (ad 5)) = some b := by
  intro c C b hm hk
  by_cases e : c = "InvalidPaper"
  · subst e
    obtain rfl : ad 4 = C := by
      have z := T.mC_InvalidPaper.symm.trans hm
      injection z with z
      injection z
    obtain rfl : false = b := Option.some.inj ((show xCat_NotUsable "InvalidPaper" = some false by decide +kernel).symm.trans hk)
    exact T.e_InvalidPaper_NotUsable
  by_cases e : c = "NotUsable"
  · subst e
    obtain rfl : ad 5 = C := by
      have z := T.mC_NotUsable.symm.trans hm
      injection z with z
      injection z
    obtain rfl : true = b := Option.some.inj ((show xCat_NotUsable "NotUsable" = some true by decide +kernel).symm.trans hk)
    exact T.e_NotUsable_NotUsable
  by_cases e : c = "Unseen"
  · subst e
    obtain rfl : ad 6 = C := by
      have z := T.mC_Unseen.symm.trans hm
      injection z with z
      injection z
    obtain rfl : false = b := Option.some.inj ((show xCat_NotUsable "Unseen" = some false by decide +kernel).symm.trans hk)
    exact T.e_Unseen_NotUsable
  simp_all [xCat_NotUsable]
theorem Txt.cat_Unseen {K : PySem.W.Frag} {mg : Str → Option Value} {ad : Nat → Addr} {fdn : Nat → FuncData} (T : Txt K mg ad fdn) : ∀ (c : Str) (C : Addr) (b : Bool), mg c = some (.ref C) → xCat_Unseen c = some b → PySem.W.exmOne K (.ref C) (.ref (ad 6)) = some b := by
  intro c C b hm hk
  by_cases e : c = "InvalidPaper"
  · subst e
    obtain rfl : ad 4 = C := by
      have z := T.mC_InvalidPaper.symm.trans hm
      injection z with z
      injection z
    obtain rfl : false = b := Option.some.inj ((show xCat_Unseen "InvalidPaper" = some false by decide +kernel).symm.trans hk)
    exact T.e_InvalidPaper_Unseen
  by_cases e : c = "NotUsable"
  · subst e
    obtain rfl : ad 5 = C := by
      have z := T.mC_NotUsable.symm.trans hm
      injection z with z
      injection z
    obtain rfl : false = b := Option.some.inj ((show xCat_Unseen "NotUsable" = some false by decide +kernel).symm.trans hk)
    exact T.e_NotUsable_Unseen
  by_cases e : c = "Unseen"
  · subst e
    obtain rfl : ad 6 = C := by
      have z := T.mC_Unseen.symm.trans hm
      injection z with z
      injection z
    obtain rfl : true = b := Option.some.inj ((show xCat_Unseen "Unseen" = some true by decide +kernel).symm.trans hk)
    exact T.e_Unseen_Unseen
  simp_all [xCat_Unseen]
def fuel_moment_on_1 : Dn.Env → Nat := fun _ => 1000
def fuel_moment_back_1 : Dn.Env → Nat := fun _ => 1000
/-! is_integer -/
def m_is_integer : MS :=
  mRet (mAnd (mOp (oIsi "int") [.nm 0]) (mNot (mOp (oIsi "bool") [.nm 0])))
def D_is_integer : List O → FR := fnD [0] 1 m_is_integer
theorem sc_is_integer : FnScope ["thing"] ["thing"] (defScope s_is_integer) := ⟨rfl, rfl, rfl, by decide +kernel, rfl, by decide +kernel, by decide +kernel⟩
theorem ok_is_integer {P : Program} {w : World} {K : PySem.W.Frag} {mg : Str → Option Value} {base : Heap} {ad : Nat → Addr} {fdn : Nat → FuncData} (T : Txt K mg ad fdn) : FnOk P w K mg base (L2N.CX P w) 1 (ad 8) (fdn 8) ["thing"] (FP K mg 1 D_is_integer) := by
  refine ok_def [0] T.F_is_integer sc_is_integer fun cdv A outer s H E hr => ?_
  have nd := sc_is_integer.nd
  have tk := L2N.takes_of (X := cxOf (L2N.CX P w) P w K mg base ["thing"] "is_integer" (defScope s_is_integer) (ad 8) cdv A outer s H E) rfl rfl rfl rfl
  have po := passes_of (X := cxOf (L2N.CX P w) P w K mg base ["thing"] "is_integer" (defScope s_is_integer) (ad 8) cdv A outer s H E) rfl
  exact (dss_one (ds_ret (de_and (de_isi (T := "int") T.b_isinstance T.b_int (dk_nm 0)) (de_one (de_not (de_isi (T := "bool") T.b_isinstance T.b_bool (dk_nm 0)))))))
/-! is_number -/
def m_is_number : MS :=
  mRet (mAnd (mCall D_is_integer [.nm 0]) (mOp oGe [.nm 0, .ex (mC (.int 0))]))
def D_is_number : List O → FR := fnD [0] 1 m_is_number
theorem sc_is_number : FnScope ["thing"] ["thing"] (defScope s_is_number) := ⟨rfl, rfl, rfl, by decide +kernel, rfl, by decide +kernel, by decide +kernel⟩
theorem ok_is_number {P : Program} {w : World} {K : PySem.W.Frag} {mg : Str → Option Value} {base : Heap} {ad : Nat → Addr} {fdn : Nat → FuncData} (T : Txt K mg ad fdn) : FnOk P w K mg base (L2N.CX P w) 2 (ad 9) (fdn 9) ["thing"] (FP K mg 1 D_is_number) := by
  refine ok_def [0] T.F_is_number sc_is_number fun cdv A outer s H E hr => ?_
  have nd := sc_is_number.nd
  have tk := L2N.takes_of (X := cxOf (L2N.CX P w) P w K mg base ["thing"] "is_number" (defScope s_is_number) (ad 9) cdv A outer s H E) rfl rfl rfl rfl
  have po := passes_of (X := cxOf (L2N.CX P w) P w K mg base ["thing"] "is_number" (defScope s_is_number) (ad 9) cdv A outer s H E) rfl
  exact (dss_one (ds_ret (de_and (de_call (ok_is_integer T) (hr.mono (by decide)) T.m_is_integer T.F_is_integer.kp T.b_is_integer tk (da_cons (dk_nm 0) da_nil)) (de_one (de_cmp op_ge s_ge (dk_nm 0) (dk_ex de_int))))))
/-! is_row -/
def m_is_row : MS :=
  mSeq (mIf (mTOr (mTNot (mB (mOp (oIsi "tuple") [.nm 1]))) (mB (mOp (oEq true) [.ex (mOp oLen [.nm 1]), .ex (mOp oLen [.nm 0])]))) (mRet (mC (.bl false))) (mPass))
  (mRet (mOp oAll [.ex (mComp (mZip [.ex (mN 1), .ex (mN 0)]) [2, 3] (gT [gN 2, gN 3]) (mYes) (mAnd (mCall D_is_number [.nm 2]) (mOp oLt [.nm 2, .nm 3])))]))
def D_is_row : List O → FR := fnD [0, 1] 4 m_is_row
theorem sc_is_row : FnScope ["dials", "thing", "shown_value", "size"] ["dials", "thing"] (defScope s_is_row) := ⟨rfl, rfl, rfl, by decide +kernel, rfl, by decide +kernel, by decide +kernel⟩
theorem ok_is_row {P : Program} {w : World} {K : PySem.W.Frag} {mg : Str → Option Value} {base : Heap} {ad : Nat → Addr} {fdn : Nat → FuncData} (T : Txt K mg ad fdn) : FnOk P w K mg base (L2N.CX P w) 3 (ad 10) (fdn 10) ["dials", "thing"] (FP K mg 2 D_is_row) := by
  refine ok_def [0, 1] T.F_is_row sc_is_row fun cdv A outer s H E hr => ?_
  have nd := sc_is_row.nd
  have tk := L2N.takes_of (X := cxOf (L2N.CX P w) P w K mg base ["dials", "thing", "shown_value", "size"] "is_row" (defScope s_is_row) (ad 10) cdv A outer s H E) rfl rfl rfl rfl
  have po := passes_of (X := cxOf (L2N.CX P w) P w K mg base ["dials", "thing", "shown_value", "size"] "is_row" (defScope s_is_row) (ad 10) cdv A outer s H E) rfl
  exact (dss_cons (ds_if (dt_w (dw_or (dt_not (dt_val (de_isi (T := "tuple") T.b_isinstance T.b_tuple (dk_nm 1)))) (dw_or1 (dt_cmp (op_neD hr.units) s_ne (dk_ex (de_callB call_len_seq s_len T.b_len (da_cons (dk_nm 1) da_nil))) (dk_ex (de_callB call_len_seq s_len T.b_len (da_cons (dk_nm 0) da_nil))))))) (dss_one (ds_ret de_bl)) dss_nil)
      (dss_one (ds_ret (de_callB (cr_all rfl) s_all T.b_all (da_cons (dk_ex (de_comp (own := [("shown_value", 2), ("size", 3)]) rfl nd (blkOk_by rfl) (by decide) (di_zip T.b_zip (da_cons (dk_ex (de_n 1)) (da_cons (dk_ex (de_n 0)) da_nil))) (fun _ => pg_tup (n := 2) rfl (pgs_cons (pg_name (i := 2) nd rfl (by first | exact Or.inl rfl | exact Or.inr rfl)) (pgs_cons (pg_name (i := 3) nd rfl (by first | exact Or.inl rfl | exact Or.inr rfl)) pgs_nil))) (gsnd_t (n := 2) (gsnd_cons (gsnd_n (i := 2) (by decide)) (gsnd_cons (gsnd_n (i := 3) (by decide)) gssnd_nil))) (gw_t (n := 2) (gsw_cons gm_n (gw_n (i := 2) (by decide)) (gsw_cons gm_n (gw_n (i := 3) (by decide)) gsw_nil))) (fun _ => dts_nil) (fun _ => (de_and (de_call (ok_is_number T) (hr.mono (by decide)) T.m_is_number T.F_is_number.kp T.b_is_number takes0N (da_cons (dk_nm 2) da_nil)) (de_one (de_cmp op_lt s_lt (dk_nm 2) (dk_nm 3))))))) da_nil)))))
/-! is_tour -/
def m_is_tour : MS :=
  mSeq (mIf (mTNot (mB (mOp (oIsi "tuple") [.nm 1]))) (mRet (mC (.bl false))) (mPass))
  (mRet (mOp oAll [.ex (mComp (mIt itS (mN 1)) [2] (gN 2) (mYes) (mAnd (mCall D_is_number [.nm 2]) (mOp oLt [.nm 2, .ex (mOp oLen [.nm 0])])))]))
def D_is_tour : List O → FR := fnD [0, 1] 3 m_is_tour
theorem sc_is_tour : FnScope ["dials", "thing", "dial"] ["dials", "thing"] (defScope s_is_tour) := ⟨rfl, rfl, rfl, by decide +kernel, rfl, by decide +kernel, by decide +kernel⟩
theorem ok_is_tour {P : Program} {w : World} {K : PySem.W.Frag} {mg : Str → Option Value} {base : Heap} {ad : Nat → Addr} {fdn : Nat → FuncData} (T : Txt K mg ad fdn) : FnOk P w K mg base (L2N.CX P w) 3 (ad 11) (fdn 11) ["dials", "thing"] (FP K mg 2 D_is_tour) := by
  refine ok_def [0, 1] T.F_is_tour sc_is_tour fun cdv A outer s H E hr => ?_
  have nd := sc_is_tour.nd
  have tk := L2N.takes_of (X := cxOf (L2N.CX P w) P w K mg base ["dials", "thing", "dial"] "is_tour" (defScope s_is_tour) (ad 11) cdv A outer s H E) rfl rfl rfl rfl
  have po := passes_of (X := cxOf (L2N.CX P w) P w K mg base ["dials", "thing", "dial"] "is_tour" (defScope s_is_tour) (ad 11) cdv A outer s H E) rfl
  exact (dss_cons (ds_if (dt_not (dt_val (de_isi (T := "tuple") T.b_isinstance T.b_tuple (dk_nm 1)))) (dss_one (ds_ret de_bl)) dss_nil)
      (dss_one (ds_ret (de_callB (cr_all rfl) s_all T.b_all (da_cons (dk_ex (de_comp (own := [("dial", 2)]) rfl nd (blkOk_by rfl) (by decide) (di_seq (de_n 1)) (fun _ => pg_name (i := 2) nd rfl (by first | exact Or.inl rfl | exact Or.inr rfl)) (gsnd_n (i := 2) (by decide)) (gw_n (i := 2) (by decide)) (fun _ => dts_nil) (fun _ => (de_and (de_call (ok_is_number T) (hr.mono (by decide)) T.m_is_number T.F_is_number.kp T.b_is_number takes0N (da_cons (dk_nm 2) da_nil)) (de_one (de_cmp op_lt s_lt (dk_nm 2) (dk_ex (de_callB call_len_seq s_len T.b_len (da_cons (dk_nm 0) da_nil))))))))) da_nil)))))
/-! is_view -/
def m_is_view : MS :=
  mSeq (mIf (mTNot (mB (mCall D_is_tour [.nm 0, .nm 1]))) (mRaise "NotUsable" ["word", "at"] [.ex (mC (.str "tour")), .ex (mOp oNeg [.ex (mC (.int 1))])]) (mPass))
  (mRet (mCall D_is_row [.ex (mOp (op1 toTup) [.ex (mComp (mIt itS (mN 1)) [3] (gN 3) (mYes) (mOp oIx [.nm 0, .nm 3]))]), .nm 2]))
def D_is_view : List O → FR := fnD [0, 1, 2] 4 m_is_view
theorem sc_is_view : FnScope ["dials", "tour", "thing", "dial"] ["dials", "tour", "thing"] (defScope s_is_view) := ⟨rfl, rfl, rfl, by decide +kernel, rfl, by decide +kernel, by decide +kernel⟩
theorem ok_is_view {P : Program} {w : World} {K : PySem.W.Frag} {mg : Str → Option Value} {base : Heap} {ad : Nat → Addr} {fdn : Nat → FuncData} (T : Txt K mg ad fdn) : FnOk P w K mg base (L2N.CX P w) 4 (ad 12) (fdn 12) ["dials", "tour", "thing"] (FP K mg 3 D_is_view) := by
  refine ok_def [0, 1, 2] T.F_is_view sc_is_view fun cdv A outer s H E hr => ?_
  have nd := sc_is_view.nd
  have tk := L2N.takes_of (X := cxOf (L2N.CX P w) P w K mg base ["dials", "tour", "thing", "dial"] "is_view" (defScope s_is_view) (ad 12) cdv A outer s H E) rfl rfl rfl rfl
  have po := passes_of (X := cxOf (L2N.CX P w) P w K mg base ["dials", "tour", "thing", "dial"] "is_view" (defScope s_is_view) (ad 12) cdv A outer s H E) rfl
  exact (dss_cons (ds_if (dt_not (dt_val (de_call (ok_is_tour T) (hr.mono (by decide)) T.m_is_tour T.F_is_tour.kp T.b_is_tour tk (da_cons (dk_nm 0) (da_cons (dk_nm 1) da_nil))))) (dss_one (ds_raise rfl tk T.o_NotUsable T.i_NotUsable T.t_NotUsable (ok_init_NotUsable T) (hr.mono (by decide)) T.bI_NotUsable T.mC_NotUsable (da_cons (dk_ex de_str) (da_cons (dk_ex (de_un un_neg s_neg (dk_ex de_int))) da_nil)))) dss_nil)
      (dss_one (ds_ret (de_call (ok_is_row T) (hr.mono (by decide)) T.m_is_row T.F_is_row.kp T.b_is_row tk (da_cons (dk_ex (de_callTy call_tuple_of s_tuple T.b_tuple (da_cons (dk_ex (de_comp (own := [("dial", 3)]) rfl nd (blkOk_by rfl) (by decide) (di_seq (de_n 1)) (fun _ => pg_name (i := 3) nd rfl (by first | exact Or.inl rfl | exact Or.inr rfl)) (gsnd_n (i := 3) (by decide)) (gw_n (i := 3) (by decide)) (fun _ => dts_nil) (fun _ => (de_ix ix_lt s_ix (dk_nm 0) (dk_nm 3))))) da_nil))) (da_cons (dk_nm 2) da_nil))))))
/-! asked_looks -/
def m_asked_looks : MS :=
  mSeq (mIf (mTOr (mTNot (mB (mCall D_is_tour [.ex (mOp oIx [.nm 0, .ex (mC (.int 0))]), .nm 1]))) (mB (mOp (oEq false) [.ex (mOp oLen [.nm 1]), .ex (mC (.int 0))]))) (mRaise "NotUsable" ["word", "at"] [.ex (mC (.str "tour")), .ex (mOp oNeg [.ex (mC (.int 1))])]) (mPass))
  (mIf (mTNot (mB (mCall D_is_view [.ex (mOp oIx [.nm 0, .ex (mC (.int 0))]), .nm 1, .nm 2]))) (mRaise "NotUsable" ["word", "at"] [.ex (mC (.str "view")), .ex (mOp oNeg [.ex (mC (.int 1))])]) (mPass))
def D_asked_looks : List O → FR := fnD [0, 1, 2] 3 m_asked_looks
theorem sc_asked_looks : FnScope ["life", "tour", "view"] ["life", "tour", "view"] (defScope s_asked_looks) := ⟨rfl, rfl, rfl, by decide +kernel, rfl, by decide +kernel, by decide +kernel⟩
theorem ok_asked_looks {P : Program} {w : World} {K : PySem.W.Frag} {mg : Str → Option Value} {base : Heap} {ad : Nat → Addr} {fdn : Nat → FuncData} (T : Txt K mg ad fdn) : FnOk P w K mg base (L2N.CX P w) 5 (ad 14) (fdn 14) ["life", "tour", "view"] (FP K mg 3 D_asked_looks) := by
  refine ok_def [0, 1, 2] T.F_asked_looks sc_asked_looks fun cdv A outer s H E hr => ?_
  have nd := sc_asked_looks.nd
  have tk := L2N.takes_of (X := cxOf (L2N.CX P w) P w K mg base ["life", "tour", "view"] "asked_looks" (defScope s_asked_looks) (ad 14) cdv A outer s H E) rfl rfl rfl rfl
  have po := passes_of (X := cxOf (L2N.CX P w) P w K mg base ["life", "tour", "view"] "asked_looks" (defScope s_asked_looks) (ad 14) cdv A outer s H E) rfl
  exact (dss_cons (ds_if (dt_w (dw_or (dt_not (dt_val (de_call (ok_is_tour T) (hr.mono (by decide)) T.m_is_tour T.F_is_tour.kp T.b_is_tour tk (da_cons (dk_ex (de_ix ix_lt s_ix (dk_nm 0) (dk_ex de_int))) (da_cons (dk_nm 1) da_nil))))) (dw_or1 (dt_cmp (op_eqD hr.units) s_eq (dk_ex (de_callB call_len_seq s_len T.b_len (da_cons (dk_nm 1) da_nil))) (dk_ex de_int))))) (dss_one (ds_raise rfl tk T.o_NotUsable T.i_NotUsable T.t_NotUsable (ok_init_NotUsable T) (hr.mono (by decide)) T.bI_NotUsable T.mC_NotUsable (da_cons (dk_ex de_str) (da_cons (dk_ex (de_un un_neg s_neg (dk_ex de_int))) da_nil)))) dss_nil)
      (dss_one (ds_if (dt_not (dt_val (de_call (ok_is_view T) (hr.mono (by decide)) T.m_is_view T.F_is_view.kp T.b_is_view tk (da_cons (dk_ex (de_ix ix_lt s_ix (dk_nm 0) (dk_ex de_int))) (da_cons (dk_nm 1) (da_cons (dk_nm 2) da_nil)))))) (dss_one (ds_raise rfl tk T.o_NotUsable T.i_NotUsable T.t_NotUsable (ok_init_NotUsable T) (hr.mono (by decide)) T.bI_NotUsable T.mC_NotUsable (da_cons (dk_ex de_str) (da_cons (dk_ex (de_un un_neg s_neg (dk_ex de_int))) da_nil)))) dss_nil)))
/-! moment_on -/
def m_moment_on : MS :=
  mSeq (mSet 4 (mOp oIx [.nm 0, .ex (mC (.int 1))]))
  (mSeq (mWhile fuel_moment_on_1 (mTAnd (mB (mOp oLt [.nm 3, .ex (mOp oLen [.nm 4])])) (mB (mOp (oEq true) [.ex (mOp oIx [.ex (mOp oIx [.ex (mOp oIx [.nm 4, .nm 3]), .ex (mC (.int 0))]), .nm 1]), .nm 2]))) (mAug 3 oAdd (mC (.int 1))))
  (mRet (mIfE (mB (mOp oLt [.nm 3, .ex (mOp oLen [.nm 4])])) (mN 3) (mC .non))))
def D_moment_on : List O → FR := fnD [0, 1, 2] 5 m_moment_on
theorem sc_moment_on : FnScope ["life", "dial", "value", "moment", "spots"] ["life", "dial", "value", "moment"] (defScope s_moment_on) := ⟨rfl, rfl, rfl, by decide +kernel, rfl, by decide +kernel, by decide +kernel⟩
theorem ok_moment_on {P : Program} {w : World} {K : PySem.W.Frag} {mg : Str → Option Value} {base : Heap} {ad : Nat → Addr} {fdn : Nat → FuncData} (T : Txt K mg ad fdn) : FnOk P w K mg base (L2N.CX P w) 1 (ad 15) (fdn 15) ["life", "dial", "value", "moment"] (FP K mg 4 D_moment_on) := by
  refine ok_def [0, 1, 2] T.F_moment_on sc_moment_on fun cdv A outer s H E hr => ?_
  have nd := sc_moment_on.nd
  have tk := L2N.takes_of (X := cxOf (L2N.CX P w) P w K mg base ["life", "dial", "value", "moment", "spots"] "moment_on" (defScope s_moment_on) (ad 15) cdv A outer s H E) rfl rfl rfl rfl
  have po := passes_of (X := cxOf (L2N.CX P w) P w K mg base ["life", "dial", "value", "moment", "spots"] "moment_on" (defScope s_moment_on) (ad 15) cdv A outer s H E) rfl
  exact (dss_cons (ds_set (i := 4) nd (de_ix ix_lt s_ix (dk_nm 0) (dk_ex de_int)))
      (dss_cons (ds_while fuel_moment_on_1 po (dt_w (dw_and (dt_cmp op_lt s_lt (dk_nm 3) (dk_ex (de_callB call_len_seq s_len T.b_len (da_cons (dk_nm 4) da_nil)))) (dw_and1 (dt_cmp (op_neD hr.units) s_ne (dk_ex (de_ix ix_lt s_ix (dk_ex (de_ix ix_lt s_ix (dk_ex (de_ix ix_lt s_ix (dk_nm 4) (dk_nm 3))) (dk_ex de_int))) (dk_nm 1))) (dk_nm 2))))) (dss_one (ds_aug (i := 3) nd iop_add s_add de_int)))
      (dss_one (ds_ret (de_ifE (dt_cmp op_lt s_lt (dk_nm 3) (dk_ex (de_callB call_len_seq s_len T.b_len (da_cons (dk_nm 4) da_nil)))) (de_n 3) de_non)))))
/-! moment_back -/
def m_moment_back : MS :=
  mSeq (mSet 4 (mOp oIx [.nm 0, .ex (mC (.int 1))]))
  (mSeq (mWhile fuel_moment_back_1 (mTAnd (mB (mOp oGe [.nm 3, .ex (mC (.int 0))])) (mB (mOp (oEq true) [.ex (mOp oIx [.ex (mOp oIx [.ex (mOp oIx [.nm 4, .nm 3]), .ex (mC (.int 0))]), .nm 1]), .nm 2]))) (mAug 3 oSub (mC (.int 1))))
  (mRet (mIfE (mB (mOp oGe [.nm 3, .ex (mC (.int 0))])) (mN 3) (mC .non))))
def D_moment_back : List O → FR := fnD [0, 1, 2] 5 m_moment_back
theorem sc_moment_back : FnScope ["life", "dial", "value", "moment", "spots"] ["life", "dial", "value", "moment"] (defScope s_moment_back) := ⟨rfl, rfl, rfl, by decide +kernel, rfl, by decide +kernel, by decide +kernel⟩
theorem ok_moment_back {P : Program} {w : World} {K : PySem.W.Frag} {mg : Str → Option Value} {base : Heap} {ad : Nat → Addr} {fdn : Nat → FuncData} (T : Txt K mg ad fdn) : FnOk P w K mg base (L2N.CX P w) 1 (ad 16) (fdn 16) ["life", "dial", "value", "moment"] (FP K mg 4 D_moment_back) := by
  refine ok_def [0, 1, 2] T.F_moment_back sc_moment_back fun cdv A outer s H E hr => ?_
  have nd := sc_moment_back.nd
  have tk := L2N.takes_of (X := cxOf (L2N.CX P w) P w K mg base ["life", "dial", "value", "moment", "spots"] "moment_back" (defScope s_moment_back) (ad 16) cdv A outer s H E) rfl rfl rfl rfl
  have po := passes_of (X := cxOf (L2N.CX P w) P w K mg base ["life", "dial", "value", "moment", "spots"] "moment_back" (defScope s_moment_back) (ad 16) cdv A outer s H E) rfl
  exact (dss_cons (ds_set (i := 4) nd (de_ix ix_lt s_ix (dk_nm 0) (dk_ex de_int)))
      (dss_cons (ds_while fuel_moment_back_1 po (dt_w (dw_and (dt_cmp op_ge s_ge (dk_nm 3) (dk_ex de_int)) (dw_and1 (dt_cmp (op_neD hr.units) s_ne (dk_ex (de_ix ix_lt s_ix (dk_ex (de_ix ix_lt s_ix (dk_ex (de_ix ix_lt s_ix (dk_nm 4) (dk_nm 3))) (dk_ex de_int))) (dk_nm 1))) (dk_nm 2))))) (dss_one (ds_aug (i := 3) nd iop_sub s_sub de_int)))
      (dss_one (ds_ret (de_ifE (dt_cmp op_ge s_ge (dk_nm 3) (dk_ex de_int)) (de_n 3) de_non)))))
/-! early_moments -/
def m_early_moments : MS :=
  mSeq (mExpr (mCall D_asked_looks [.nm 0, .nm 1, .nm 2]))
  (mSeq (mSet 3 (mC (.int 0)))
  (mSeq (mSet 4 (mAll oLst []))
  (mSeq (mFor (mIt itEn (mN 1)) (gT [gN 5, gN 6]) (mSeq (mSet 3 (mCall D_moment_on [.nm 0, .nm 6, .ex (mOp oIx [.nm 2, .nm 5]), .nm 3]))
  (mSeq (mIf (mB (mOp (oIsN false) [.nm 3, .ex (mC .non)])) (mRaise "Unseen" ["place"] [.ex (mN 5)]) (mPass))
  (mExpr (mMut 4 fApp [.ex (mN 3)])))))
  (mRet (mOp (op1 toTup) [.nm 4])))))
def D_early_moments : List O → FR := fnD [0, 1, 2] 7 m_early_moments
theorem sc_early_moments : FnScope ["life", "tour", "view", "moment", "early", "place", "dial"] ["life", "tour", "view"] (defScope s_early_moments) := ⟨rfl, rfl, rfl, by decide +kernel, rfl, by decide +kernel, by decide +kernel⟩
theorem ok_early_moments {P : Program} {w : World} {K : PySem.W.Frag} {mg : Str → Option Value} {base : Heap} {ad : Nat → Addr} {fdn : Nat → FuncData} (T : Txt K mg ad fdn) : FnOk P w K mg base (L2N.CX P w) 6 (ad 17) (fdn 17) ["life", "tour", "view"] (FP K mg 3 D_early_moments) := by
  refine ok_def [0, 1, 2] T.F_early_moments sc_early_moments fun cdv A outer s H E hr => ?_
  have nd := sc_early_moments.nd
  have tk := L2N.takes_of (X := cxOf (L2N.CX P w) P w K mg base ["life", "tour", "view", "moment", "early", "place", "dial"] "early_moments" (defScope s_early_moments) (ad 17) cdv A outer s H E) rfl rfl rfl rfl
  have po := passes_of (X := cxOf (L2N.CX P w) P w K mg base ["life", "tour", "view", "moment", "early", "place", "dial"] "early_moments" (defScope s_early_moments) (ad 17) cdv A outer s H E) rfl
  exact (dss_cons (ds_expr (de_call (ok_asked_looks T) (hr.mono (by decide)) T.m_asked_looks T.F_asked_looks.kp T.b_asked_looks tk (da_cons (dk_nm 0) (da_cons (dk_nm 1) (da_cons (dk_nm 2) da_nil)))))
      (dss_cons (ds_set (i := 3) nd de_int)
      (dss_cons (ds_set (i := 4) nd (de_lst da_nil))
      (dss_cons (ds_for po rfl (di_enum T.b_enumerate (de_n 1)) (dg_t rfl (dgs_cons (dg_n (i := 5) nd) (dgs_cons (dg_n (i := 6) nd) dgs_nil))) (dss_cons (ds_set (i := 3) nd (de_call (ok_moment_on T) (hr.mono (by decide)) T.m_moment_on T.F_moment_on.kp T.b_moment_on tk (da_cons (dk_nm 0) (da_cons (dk_nm 6) (da_cons (dk_ex (de_ix ix_lt s_ix (dk_nm 2) (dk_nm 5))) (da_cons (dk_nm 3) da_nil))))))
      (dss_cons (ds_if (dt_cmp op_isN s_isN (dk_nm 3) (dk_ex de_non)) (dss_one (ds_raise rfl tk T.o_Unseen T.i_Unseen T.t_Unseen (ok_init_Unseen T) (hr.mono (by decide)) T.bI_Unseen T.mC_Unseen (da_cons (dk_ex (de_n 5)) da_nil))) dss_nil)
      (dss_one (ds_expr (de_mut (i := 4) PySem.F.plainAttrs_list PySem.F.slot_list_append PySem.F.type_list_append mt_append s_app (da_cons (dk_ex (de_n 3)) da_nil)))))))
      (dss_one (ds_ret (de_callTy call_tuple_of s_tuple T.b_tuple (da_cons (dk_nm 4) da_nil))))))))
/-! late_moments -/
def m_late_moments : MS :=
  mSeq (mExpr (mCall D_asked_looks [.nm 0, .nm 1, .nm 2]))
  (mSeq (mSet 3 (mOp oSub [.ex (mOp oLen [.ex (mOp oIx [.nm 0, .ex (mC (.int 1))])]), .ex (mC (.int 1))]))
  (mSeq (mSet 4 (mAll oLst []))
  (mSeq (mFor (mRgB [.ex (mOp oSub [.ex (mOp oLen [.nm 1]), .ex (mC (.int 1))]), .ex (mOp oNeg [.ex (mC (.int 1))]), .ex (mOp oNeg [.ex (mC (.int 1))])]) (gN 5) (mSeq (mSet 3 (mCall D_moment_back [.nm 0, .ex (mOp oIx [.nm 1, .nm 5]), .ex (mOp oIx [.nm 2, .nm 5]), .nm 3]))
  (mSeq (mIf (mB (mOp (oIsN false) [.nm 3, .ex (mC .non)])) (mRaise "Unseen" ["place"] [.ex (mN 5)]) (mPass))
  (mExpr (mMut 4 fApp [.ex (mN 3)])))))
  (mRet (mOp (op1 toTup) [.ex (mOp (op1 toRv) [.nm 4])])))))
def D_late_moments : List O → FR := fnD [0, 1, 2] 6 m_late_moments
theorem sc_late_moments : FnScope ["life", "tour", "view", "moment", "late", "place"] ["life", "tour", "view"] (defScope s_late_moments) := ⟨rfl, rfl, rfl, by decide +kernel, rfl, by decide +kernel, by decide +kernel⟩
theorem ok_late_moments {P : Program} {w : World} {K : PySem.W.Frag} {mg : Str → Option Value} {base : Heap} {ad : Nat → Addr} {fdn : Nat → FuncData} (T : Txt K mg ad fdn) : FnOk P w K mg base (L2N.CX P w) 6 (ad 18) (fdn 18) ["life", "tour", "view"] (FP K mg 3 D_late_moments) := by
  refine ok_def [0, 1, 2] T.F_late_moments sc_late_moments fun cdv A outer s H E hr => ?_
  have nd := sc_late_moments.nd
  have tk := L2N.takes_of (X := cxOf (L2N.CX P w) P w K mg base ["life", "tour", "view", "moment", "late", "place"] "late_moments" (defScope s_late_moments) (ad 18) cdv A outer s H E) rfl rfl rfl rfl
  have po := passes_of (X := cxOf (L2N.CX P w) P w K mg base ["life", "tour", "view", "moment", "late", "place"] "late_moments" (defScope s_late_moments) (ad 18) cdv A outer s H E) rfl
  exact (dss_cons (ds_expr (de_call (ok_asked_looks T) (hr.mono (by decide)) T.m_asked_looks T.F_asked_looks.kp T.b_asked_looks tk (da_cons (dk_nm 0) (da_cons (dk_nm 1) (da_cons (dk_nm 2) da_nil)))))
      (dss_cons (ds_set (i := 3) nd (de_bin op_sub s_sub (dk_ex (de_callB call_len_seq s_len T.b_len (da_cons (dk_ex (de_ix ix_lt s_ix (dk_nm 0) (dk_ex de_int))) da_nil))) (dk_ex de_int)))
      (dss_cons (ds_set (i := 4) nd (de_lst da_nil))
      (dss_cons (ds_for po rfl (di_range3 T.b_range (da_cons (dk_ex (de_bin op_sub s_sub (dk_ex (de_callB call_len_seq s_len T.b_len (da_cons (dk_nm 1) da_nil))) (dk_ex de_int))) (da_cons (dk_ex (de_un un_neg s_neg (dk_ex de_int))) (da_cons (dk_ex (de_un un_neg s_neg (dk_ex de_int))) da_nil)))) (dg_n (i := 5) nd) (dss_cons (ds_set (i := 3) nd (de_call (ok_moment_back T) (hr.mono (by decide)) T.m_moment_back T.F_moment_back.kp T.b_moment_back tk (da_cons (dk_nm 0) (da_cons (dk_ex (de_ix ix_lt s_ix (dk_nm 1) (dk_nm 5))) (da_cons (dk_ex (de_ix ix_lt s_ix (dk_nm 2) (dk_nm 5))) (da_cons (dk_nm 3) da_nil))))))
      (dss_cons (ds_if (dt_cmp op_isN s_isN (dk_nm 3) (dk_ex de_non)) (dss_one (ds_raise rfl tk T.o_Unseen T.i_Unseen T.t_Unseen (ok_init_Unseen T) (hr.mono (by decide)) T.bI_Unseen T.mC_Unseen (da_cons (dk_ex (de_n 5)) da_nil))) dss_nil)
      (dss_one (ds_expr (de_mut (i := 4) PySem.F.plainAttrs_list PySem.F.slot_list_append PySem.F.type_list_append mt_append s_app (da_cons (dk_ex (de_n 3)) da_nil)))))))
      (dss_one (ds_ret (de_callTy call_tuple_of s_tuple T.b_tuple (da_cons (dk_ex (de_rv (dk_nm 4))) da_nil))))))))
/-! life_span -/
def m_life_span : MS :=
  mSeq (mSet 3 (mCall D_early_moments [.nm 0, .nm 1, .nm 2]))
  (mSeq (mSet 4 (mCall D_late_moments [.nm 0, .nm 1, .nm 2]))
  (mSeq (mSet 5 (mOp oIx [.ex (mOp oIx [.ex (mOp oIx [.nm 0, .ex (mC (.int 1))]), .ex (mOp oIx [.nm 4, .ex (mC (.int 0))])]), .ex (mC (.int 1))]))
  (mSeq (mSet 6 (mOp oIx [.ex (mOp oIx [.ex (mOp oIx [.nm 0, .ex (mC (.int 1))]), .ex (mOp oIx [.nm 3, .ex (mOp oNeg [.ex (mC (.int 1))])])]), .ex (mC (.int 1))]))
  (mRet (mIfE (mB (mOp oGt [.nm 5, .nm 6])) (mC .non) (mAll oTup [.ex (mN 5), .ex (mN 6)]))))))
def D_life_span : List O → FR := fnD [0, 1, 2] 7 m_life_span
theorem sc_life_span : FnScope ["life", "tour", "view", "early", "late", "least", "most"] ["life", "tour", "view"] (defScope s_life_span) := ⟨rfl, rfl, rfl, by decide +kernel, rfl, by decide +kernel, by decide +kernel⟩
theorem ok_life_span {P : Program} {w : World} {K : PySem.W.Frag} {mg : Str → Option Value} {base : Heap} {ad : Nat → Addr} {fdn : Nat → FuncData} (T : Txt K mg ad fdn) : FnOk P w K mg base (L2N.CX P w) 7 (ad 19) (fdn 19) ["life", "tour", "view"] (FP K mg 3 D_life_span) := by
  refine ok_def [0, 1, 2] T.F_life_span sc_life_span fun cdv A outer s H E hr => ?_
  have nd := sc_life_span.nd
  have tk := L2N.takes_of (X := cxOf (L2N.CX P w) P w K mg base ["life", "tour", "view", "early", "late", "least", "most"] "life_span" (defScope s_life_span) (ad 19) cdv A outer s H E) rfl rfl rfl rfl
  have po := passes_of (X := cxOf (L2N.CX P w) P w K mg base ["life", "tour", "view", "early", "late", "least", "most"] "life_span" (defScope s_life_span) (ad 19) cdv A outer s H E) rfl
  exact (dss_cons (ds_set (i := 3) nd (de_call (ok_early_moments T) (hr.mono (by decide)) T.m_early_moments T.F_early_moments.kp T.b_early_moments tk (da_cons (dk_nm 0) (da_cons (dk_nm 1) (da_cons (dk_nm 2) da_nil)))))
      (dss_cons (ds_set (i := 4) nd (de_call (ok_late_moments T) (hr.mono (by decide)) T.m_late_moments T.F_late_moments.kp T.b_late_moments tk (da_cons (dk_nm 0) (da_cons (dk_nm 1) (da_cons (dk_nm 2) da_nil)))))
      (dss_cons (ds_set (i := 5) nd (de_ix ix_lt s_ix (dk_ex (de_ix ix_lt s_ix (dk_ex (de_ix ix_lt s_ix (dk_nm 0) (dk_ex de_int))) (dk_ex (de_ix ix_lt s_ix (dk_nm 4) (dk_ex de_int))))) (dk_ex de_int)))
      (dss_cons (ds_set (i := 6) nd (de_ix ix_lt s_ix (dk_ex (de_ix ix_lt s_ix (dk_ex (de_ix ix_lt s_ix (dk_nm 0) (dk_ex de_int))) (dk_ex (de_ix ix_lt s_ix (dk_nm 3) (dk_ex (de_un un_neg s_neg (dk_ex de_int))))))) (dk_ex de_int)))
      (dss_one (ds_ret (de_ifE (dt_cmp op_gt s_gt (dk_nm 5) (dk_nm 6)) de_non (de_tup (da_cons (dk_ex (de_n 5)) (da_cons (dk_ex (de_n 6)) da_nil))))))))))
/-! answer_paper -/
def m_answer_paper : MS :=
  mSeq (mSet 3 (mCall D_early_moments [.nm 0, .nm 1, .nm 2]))
  (mRet (mAll oTup [.ex (mN 3), .ex (mCall D_late_moments [.nm 0, .nm 1, .nm 2])]))
def D_answer_paper : List O → FR := fnD [0, 1, 2] 4 m_answer_paper
theorem sc_answer_paper : FnScope ["life", "tour", "view", "early"] ["life", "tour", "view"] (defScope s_answer_paper) := ⟨rfl, rfl, rfl, by decide +kernel, rfl, by decide +kernel, by decide +kernel⟩
theorem ok_answer_paper {P : Program} {w : World} {K : PySem.W.Frag} {mg : Str → Option Value} {base : Heap} {ad : Nat → Addr} {fdn : Nat → FuncData} (T : Txt K mg ad fdn) : FnOk P w K mg base (L2N.CX P w) 7 (ad 21) (fdn 21) ["life", "tour", "view"] (FP K mg 3 D_answer_paper) := by
  refine ok_def [0, 1, 2] T.F_answer_paper sc_answer_paper fun cdv A outer s H E hr => ?_
  have nd := sc_answer_paper.nd
  have tk := L2N.takes_of (X := cxOf (L2N.CX P w) P w K mg base ["life", "tour", "view", "early"] "answer_paper" (defScope s_answer_paper) (ad 21) cdv A outer s H E) rfl rfl rfl rfl
  have po := passes_of (X := cxOf (L2N.CX P w) P w K mg base ["life", "tour", "view", "early"] "answer_paper" (defScope s_answer_paper) (ad 21) cdv A outer s H E) rfl
  exact (dss_cons (ds_set (i := 3) nd (de_call (ok_early_moments T) (hr.mono (by decide)) T.m_early_moments T.F_early_moments.kp T.b_early_moments tk (da_cons (dk_nm 0) (da_cons (dk_nm 1) (da_cons (dk_nm 2) da_nil)))))
      (dss_one (ds_ret (de_tup (da_cons (dk_ex (de_n 3)) (da_cons (dk_ex (de_call (ok_late_moments T) (hr.mono (by decide)) T.m_late_moments T.F_late_moments.kp T.b_late_moments tk (da_cons (dk_nm 0) (da_cons (dk_nm 1) (da_cons (dk_nm 2) da_nil))))) da_nil))))))
/-! are_moments -/
def m_are_moments : MS :=
  mSeq (mIf (mTOr (mTNot (mB (mOp (oIsi "tuple") [.nm 2]))) (mB (mOp (oEq true) [.ex (mOp oLen [.nm 2]), .nm 1]))) (mRet (mC (.bl false))) (mPass))
  (mRet (mOp oAll [.ex (mComp (mIt itS (mN 2)) [3] (gN 3) (mYes) (mAnd (mCall D_is_number [.nm 3]) (mOp oLt [.nm 3, .ex (mOp oLen [.ex (mOp oIx [.nm 0, .ex (mC (.int 1))])])])))]))
def D_are_moments : List O → FR := fnD [0, 1, 2] 4 m_are_moments
theorem sc_are_moments : FnScope ["life", "many", "thing", "moment"] ["life", "many", "thing"] (defScope s_are_moments) := ⟨rfl, rfl, rfl, by decide +kernel, rfl, by decide +kernel, by decide +kernel⟩
theorem ok_are_moments {P : Program} {w : World} {K : PySem.W.Frag} {mg : Str → Option Value} {base : Heap} {ad : Nat → Addr} {fdn : Nat → FuncData} (T : Txt K mg ad fdn) : FnOk P w K mg base (L2N.CX P w) 3 (ad 22) (fdn 22) ["life", "many", "thing"] (FP K mg 3 D_are_moments) := by
  refine ok_def [0, 1, 2] T.F_are_moments sc_are_moments fun cdv A outer s H E hr => ?_
  have nd := sc_are_moments.nd
  have tk := L2N.takes_of (X := cxOf (L2N.CX P w) P w K mg base ["life", "many", "thing", "moment"] "are_moments" (defScope s_are_moments) (ad 22) cdv A outer s H E) rfl rfl rfl rfl
  have po := passes_of (X := cxOf (L2N.CX P w) P w K mg base ["life", "many", "thing", "moment"] "are_moments" (defScope s_are_moments) (ad 22) cdv A outer s H E) rfl
  exact (dss_cons (ds_if (dt_w (dw_or (dt_not (dt_val (de_isi (T := "tuple") T.b_isinstance T.b_tuple (dk_nm 2)))) (dw_or1 (dt_cmp (op_neD hr.units) s_ne (dk_ex (de_callB call_len_seq s_len T.b_len (da_cons (dk_nm 2) da_nil))) (dk_nm 1))))) (dss_one (ds_ret de_bl)) dss_nil)
      (dss_one (ds_ret (de_callB (cr_all rfl) s_all T.b_all (da_cons (dk_ex (de_comp (own := [("moment", 3)]) rfl nd (blkOk_by rfl) (by decide) (di_seq (de_n 2)) (fun _ => pg_name (i := 3) nd rfl (by first | exact Or.inl rfl | exact Or.inr rfl)) (gsnd_n (i := 3) (by decide)) (gw_n (i := 3) (by decide)) (fun _ => dts_nil) (fun _ => (de_and (de_call (ok_is_number T) (hr.mono (by decide)) T.m_is_number T.F_is_number.kp T.b_is_number takes0N (da_cons (dk_nm 3) da_nil)) (de_one (de_cmp op_lt s_lt (dk_nm 3) (dk_ex (de_callB call_len_seq s_len T.b_len (da_cons (dk_ex (de_ix ix_lt s_ix (dk_nm 0) (dk_ex de_int))) da_nil))))))))) da_nil)))))
/-! lets_answer -/
def m_lets_answer : MS :=
  mSeq (mExpr (mCall D_asked_looks [.nm 0, .nm 1, .nm 2]))
  (mSeq (mIf (mTOr (mTNot (mB (mOp (oIsi "tuple") [.nm 3]))) (mB (mOp (oEq true) [.ex (mOp oLen [.nm 3]), .ex (mC (.int 2))]))) (mRaise "InvalidPaper" ["word", "at"] [.ex (mC (.str "shape")), .ex (mOp oNeg [.ex (mC (.int 1))])]) (mPass))
  (mSeq (mUnp (mN 3) (gT [gN 4, gN 5]))
  (mSeq (mIf (mTNot (mB (mCall D_are_moments [.nm 0, .ex (mOp oLen [.nm 1]), .nm 4]))) (mRaise "InvalidPaper" ["word", "at"] [.ex (mC (.str "early")), .ex (mOp oNeg [.ex (mC (.int 1))])]) (mPass))
  (mSeq (mSet 6 (mC (.int 0)))
  (mSeq (mFor (mIt itEn (mN 1)) (gT [gN 7, gN 8]) (mSeq (mIf (mB (mOp (oEq true) [.ex (mCall D_moment_on [.nm 0, .nm 8, .ex (mOp oIx [.nm 2, .nm 7]), .nm 6]), .ex (mOp oIx [.nm 4, .nm 7])])) (mRaise "InvalidPaper" ["word", "at"] [.ex (mC (.str "early")), .ex (mN 7)]) (mPass))
  (mSet 6 (mOp oIx [.nm 4, .nm 7]))))
  (mSeq (mIf (mTNot (mB (mCall D_are_moments [.nm 0, .ex (mOp oLen [.nm 1]), .nm 5]))) (mRaise "InvalidPaper" ["word", "at"] [.ex (mC (.str "late")), .ex (mOp oNeg [.ex (mC (.int 1))])]) (mPass))
  (mSeq (mSet 6 (mOp oSub [.ex (mOp oLen [.ex (mOp oIx [.nm 0, .ex (mC (.int 1))])]), .ex (mC (.int 1))]))
  (mSeq (mFor (mRgB [.ex (mOp oSub [.ex (mOp oLen [.nm 1]), .ex (mC (.int 1))]), .ex (mOp oNeg [.ex (mC (.int 1))]), .ex (mOp oNeg [.ex (mC (.int 1))])]) (gN 7) (mSeq (mIf (mB (mOp (oEq true) [.ex (mCall D_moment_back [.nm 0, .ex (mOp oIx [.nm 1, .nm 7]), .ex (mOp oIx [.nm 2, .nm 7]), .nm 6]), .ex (mOp oIx [.nm 5, .nm 7])])) (mRaise "InvalidPaper" ["word", "at"] [.ex (mC (.str "late")), .ex (mN 7)]) (mPass))
  (mSet 6 (mOp oIx [.nm 5, .nm 7]))))
  (mRet (mAll oTup [.ex (mOp oIx [.ex (mOp oIx [.ex (mOp oIx [.nm 0, .ex (mC (.int 1))]), .ex (mOp oIx [.nm 5, .ex (mC (.int 0))])]), .ex (mC (.int 1))]), .ex (mOp oIx [.ex (mOp oIx [.ex (mOp oIx [.nm 0, .ex (mC (.int 1))]), .ex (mOp oIx [.nm 4, .ex (mOp oNeg [.ex (mC (.int 1))])])]), .ex (mC (.int 1))])]))))))))))
def D_lets_answer : List O → FR := fnD [0, 1, 2, 3] 9 m_lets_answer
theorem sc_lets_answer : FnScope ["life", "tour", "view", "thing", "early", "late", "moment", "place", "dial"] ["life", "tour", "view", "thing"] (defScope s_lets_answer) := ⟨rfl, rfl, rfl, by decide +kernel, rfl, by decide +kernel, by decide +kernel⟩
theorem ok_lets_answer {P : Program} {w : World} {K : PySem.W.Frag} {mg : Str → Option Value} {base : Heap} {ad : Nat → Addr} {fdn : Nat → FuncData} (T : Txt K mg ad fdn) : FnOk P w K mg base (L2N.CX P w) 6 (ad 23) (fdn 23) ["life", "tour", "view", "thing"] (FP K mg 4 D_lets_answer) := by
  refine ok_def [0, 1, 2, 3] T.F_lets_answer sc_lets_answer fun cdv A outer s H E hr => ?_
  have nd := sc_lets_answer.nd
  have tk := L2N.takes_of (X := cxOf (L2N.CX P w) P w K mg base ["life", "tour", "view", "thing", "early", "late", "moment", "place", "dial"] "lets_answer" (defScope s_lets_answer) (ad 23) cdv A outer s H E) rfl rfl rfl rfl
  have po := passes_of (X := cxOf (L2N.CX P w) P w K mg base ["life", "tour", "view", "thing", "early", "late", "moment", "place", "dial"] "lets_answer" (defScope s_lets_answer) (ad 23) cdv A outer s H E) rfl
  exact (dss_cons (ds_expr (de_call (ok_asked_looks T) (hr.mono (by decide)) T.m_asked_looks T.F_asked_looks.kp T.b_asked_looks tk (da_cons (dk_nm 0) (da_cons (dk_nm 1) (da_cons (dk_nm 2) da_nil)))))
      (dss_cons (ds_if (dt_w (dw_or (dt_not (dt_val (de_isi (T := "tuple") T.b_isinstance T.b_tuple (dk_nm 3)))) (dw_or1 (dt_cmp (op_neD hr.units) s_ne (dk_ex (de_callB call_len_seq s_len T.b_len (da_cons (dk_nm 3) da_nil))) (dk_ex de_int))))) (dss_one (ds_raise rfl tk T.o_InvalidPaper T.i_InvalidPaper T.t_InvalidPaper (ok_init_InvalidPaper T) (hr.mono (by decide)) T.bI_InvalidPaper T.mC_InvalidPaper (da_cons (dk_ex de_str) (da_cons (dk_ex (de_un un_neg s_neg (dk_ex de_int))) da_nil)))) dss_nil)
      (dss_cons (ds_unp (de_n 3) (dg_t rfl (dgs_cons (dg_n (i := 4) nd) (dgs_cons (dg_n (i := 5) nd) dgs_nil))))
      (dss_cons (ds_if (dt_not (dt_val (de_call (ok_are_moments T) (hr.mono (by decide)) T.m_are_moments T.F_are_moments.kp T.b_are_moments tk (da_cons (dk_nm 0) (da_cons (dk_ex (de_callB call_len_seq s_len T.b_len (da_cons (dk_nm 1) da_nil))) (da_cons (dk_nm 4) da_nil)))))) (dss_one (ds_raise rfl tk T.o_InvalidPaper T.i_InvalidPaper T.t_InvalidPaper (ok_init_InvalidPaper T) (hr.mono (by decide)) T.bI_InvalidPaper T.mC_InvalidPaper (da_cons (dk_ex de_str) (da_cons (dk_ex (de_un un_neg s_neg (dk_ex de_int))) da_nil)))) dss_nil)
      (dss_cons (ds_set (i := 6) nd de_int)
      (dss_cons (ds_for po rfl (di_enum T.b_enumerate (de_n 1)) (dg_t rfl (dgs_cons (dg_n (i := 7) nd) (dgs_cons (dg_n (i := 8) nd) dgs_nil))) (dss_cons (ds_if (dt_cmp (op_neD hr.units) s_ne (dk_ex (de_call (ok_moment_on T) (hr.mono (by decide)) T.m_moment_on T.F_moment_on.kp T.b_moment_on tk (da_cons (dk_nm 0) (da_cons (dk_nm 8) (da_cons (dk_ex (de_ix ix_lt s_ix (dk_nm 2) (dk_nm 7))) (da_cons (dk_nm 6) da_nil)))))) (dk_ex (de_ix ix_lt s_ix (dk_nm 4) (dk_nm 7)))) (dss_one (ds_raise rfl tk T.o_InvalidPaper T.i_InvalidPaper T.t_InvalidPaper (ok_init_InvalidPaper T) (hr.mono (by decide)) T.bI_InvalidPaper T.mC_InvalidPaper (da_cons (dk_ex de_str) (da_cons (dk_ex (de_n 7)) da_nil)))) dss_nil)
      (dss_one (ds_set (i := 6) nd (de_ix ix_lt s_ix (dk_nm 4) (dk_nm 7))))))
      (dss_cons (ds_if (dt_not (dt_val (de_call (ok_are_moments T) (hr.mono (by decide)) T.m_are_moments T.F_are_moments.kp T.b_are_moments tk (da_cons (dk_nm 0) (da_cons (dk_ex (de_callB call_len_seq s_len T.b_len (da_cons (dk_nm 1) da_nil))) (da_cons (dk_nm 5) da_nil)))))) (dss_one (ds_raise rfl tk T.o_InvalidPaper T.i_InvalidPaper T.t_InvalidPaper (ok_init_InvalidPaper T) (hr.mono (by decide)) T.bI_InvalidPaper T.mC_InvalidPaper (da_cons (dk_ex de_str) (da_cons (dk_ex (de_un un_neg s_neg (dk_ex de_int))) da_nil)))) dss_nil)
      (dss_cons (ds_set (i := 6) nd (de_bin op_sub s_sub (dk_ex (de_callB call_len_seq s_len T.b_len (da_cons (dk_ex (de_ix ix_lt s_ix (dk_nm 0) (dk_ex de_int))) da_nil))) (dk_ex de_int)))
      (dss_cons (ds_for po rfl (di_range3 T.b_range (da_cons (dk_ex (de_bin op_sub s_sub (dk_ex (de_callB call_len_seq s_len T.b_len (da_cons (dk_nm 1) da_nil))) (dk_ex de_int))) (da_cons (dk_ex (de_un un_neg s_neg (dk_ex de_int))) (da_cons (dk_ex (de_un un_neg s_neg (dk_ex de_int))) da_nil)))) (dg_n (i := 7) nd) (dss_cons (ds_if (dt_cmp (op_neD hr.units) s_ne (dk_ex (de_call (ok_moment_back T) (hr.mono (by decide)) T.m_moment_back T.F_moment_back.kp T.b_moment_back tk (da_cons (dk_nm 0) (da_cons (dk_ex (de_ix ix_lt s_ix (dk_nm 1) (dk_nm 7))) (da_cons (dk_ex (de_ix ix_lt s_ix (dk_nm 2) (dk_nm 7))) (da_cons (dk_nm 6) da_nil)))))) (dk_ex (de_ix ix_lt s_ix (dk_nm 5) (dk_nm 7)))) (dss_one (ds_raise rfl tk T.o_InvalidPaper T.i_InvalidPaper T.t_InvalidPaper (ok_init_InvalidPaper T) (hr.mono (by decide)) T.bI_InvalidPaper T.mC_InvalidPaper (da_cons (dk_ex de_str) (da_cons (dk_ex (de_n 7)) da_nil)))) dss_nil)
      (dss_one (ds_set (i := 6) nd (de_ix ix_lt s_ix (dk_nm 5) (dk_nm 7))))))
      (dss_one (ds_ret (de_tup (da_cons (dk_ex (de_ix ix_lt s_ix (dk_ex (de_ix ix_lt s_ix (dk_ex (de_ix ix_lt s_ix (dk_nm 0) (dk_ex de_int))) (dk_ex (de_ix ix_lt s_ix (dk_nm 5) (dk_ex de_int))))) (dk_ex de_int))) (da_cons (dk_ex (de_ix ix_lt s_ix (dk_ex (de_ix ix_lt s_ix (dk_ex (de_ix ix_lt s_ix (dk_nm 0) (dk_ex de_int))) (dk_ex (de_ix ix_lt s_ix (dk_nm 4) (dk_ex (de_un un_neg s_neg (dk_ex de_int))))))) (dk_ex de_int))) da_nil))))))))))))))
/-! _law_same -/
def m__law_same (self : List O → FR) : MS :=
  mSeq (mIf (mB (mOp (oIsN false) [.nm 1, .ex (mC .non)])) (mRet (mOp (oIsN false) [.nm 0, .ex (mC .non)])) (mPass))
  (mSeq (mIf (mB (mOp (oIsi "bool") [.nm 1])) (mRet (mAnd (mOp (oIsi "bool") [.nm 0]) (mOp (oEq false) [.nm 0, .nm 1]))) (mPass))
  (mSeq (mIf (mB (mOp (oIsi "int") [.nm 1])) (mRet (mAnd (mOp (oIsi "int") [.nm 0]) (mAnd (mNot (mOp (oIsi "bool") [.nm 0])) (mOp (oEq false) [.nm 0, .nm 1])))) (mPass))
  (mSeq (mIf (mB (mOp (oIsi "str") [.nm 1])) (mRet (mAnd (mOp (oIsi "str") [.nm 0]) (mOp (oEq false) [.nm 0, .nm 1]))) (mPass))
  (mSeq (mIf (mTAnd (mB (mOp (oIsi "tuple") [.nm 1])) (mTNot (mB (mOp (oIsi "tuple") [.nm 0])))) (mRet (mC (.bl false))) (mPass))
  (mSeq (mIf (mTAnd (mB (mOp (oIsi "list") [.nm 1])) (mTNot (mB (mOp (oIsi "list") [.nm 0])))) (mRet (mC (.bl false))) (mPass))
  (mSeq (mIf (mTOr (mTNot (mB (mOp (oIsiT ["tuple", "list"]) [.nm 1]))) (mB (mOp (oEq true) [.ex (mOp oLen [.nm 0]), .ex (mOp oLen [.nm 1])]))) (mRet (mC (.bl false))) (mPass))
  (mRet (mOp oAll [.ex (mComp (mRg [.ex (mOp oLen [.nm 1])]) [2] (gN 2) (mYes) (mCall self [.ex (mOp oIx [.nm 0, .nm 2]), .ex (mOp oIx [.nm 1, .nm 2])]))]))))))))
def D__law_same : Nat → List O → FR
  | 0 => fun _ => .fail
  | n + 1 => fnD [0, 1] 3 (m__law_same (D__law_same n))
theorem sc__law_same : FnScope ["_law_told", "_law_due", "_law_k"] ["_law_told", "_law_due"] (defScope s__law_same) := ⟨rfl, rfl, rfl, by decide +kernel, rfl, by decide +kernel, by decide +kernel⟩
theorem ok__law_same {P : Program} {w : World} {K : PySem.W.Frag} {mg : Str → Option Value} {base : Heap} {ad : Nat → Addr} {fdn : Nat → FuncData} (T : Txt K mg ad fdn) : ∀ n : Nat, FnOk P w K mg base (L2N.CX P w) (1 + n) (ad 25) (fdn 25) ["_law_told", "_law_due"] (FP K mg 2 (D__law_same n))
  | 0 => fnok_fail
  | n + 1 => by
    have ih := ok__law_same (P := P) (w := w) (base := base) T n
    refine ok_def [0, 1] T.F__law_same sc__law_same fun cdv A outer s H E hr => ?_
    have nd := sc__law_same.nd
    have tk := L2N.takes_of (X := cxOf (L2N.CX P w) P w K mg base ["_law_told", "_law_due", "_law_k"] "_law_same" (defScope s__law_same) (ad 25) cdv A outer s H E) rfl rfl rfl rfl
    have po := passes_of (X := cxOf (L2N.CX P w) P w K mg base ["_law_told", "_law_due", "_law_k"] "_law_same" (defScope s__law_same) (ad 25) cdv A outer s H E) rfl
    exact (dss_cons (ds_if (dt_cmp op_isN s_isN (dk_nm 1) (dk_ex de_non)) (dss_one (ds_ret (de_cmp op_isN s_isN (dk_nm 0) (dk_ex de_non)))) dss_nil)
      (dss_cons (ds_if (dt_val (de_isi (T := "bool") T.b_isinstance T.b_bool (dk_nm 1))) (dss_one (ds_ret (de_and (de_isi (T := "bool") T.b_isinstance T.b_bool (dk_nm 0)) (de_one (de_cmp (op_eqD hr.units) s_eq (dk_nm 0) (dk_nm 1)))))) dss_nil)
      (dss_cons (ds_if (dt_val (de_isi (T := "int") T.b_isinstance T.b_int (dk_nm 1))) (dss_one (ds_ret (de_and (de_isi (T := "int") T.b_isinstance T.b_int (dk_nm 0)) (de_and (de_not (de_isi (T := "bool") T.b_isinstance T.b_bool (dk_nm 0))) (de_one (de_cmp (op_eqD hr.units) s_eq (dk_nm 0) (dk_nm 1))))))) dss_nil)
      (dss_cons (ds_if (dt_val (de_isi (T := "str") T.b_isinstance T.b_str (dk_nm 1))) (dss_one (ds_ret (de_and (de_isi (T := "str") T.b_isinstance T.b_str (dk_nm 0)) (de_one (de_cmp (op_eqD hr.units) s_eq (dk_nm 0) (dk_nm 1)))))) dss_nil)
      (dss_cons (ds_if (dt_w (dw_and (dt_val (de_isi (T := "tuple") T.b_isinstance T.b_tuple (dk_nm 1))) (dw_and1 (dt_not (dt_val (de_isi (T := "tuple") T.b_isinstance T.b_tuple (dk_nm 0))))))) (dss_one (ds_ret de_bl)) dss_nil)
      (dss_cons (ds_if (dt_w (dw_and (dt_val (de_isi (T := "list") T.b_isinstance T.b_list (dk_nm 1))) (dw_and1 (dt_not (dt_val (de_isi (T := "list") T.b_isinstance T.b_list (dk_nm 0))))))) (dss_one (ds_ret de_bl)) dss_nil)
      (dss_cons (ds_if (dt_w (dw_or (dt_not (dt_val (de_isiT (T := "tuple") (U := "list") T.b_isinstance T.b_tuple T.b_list (dk_nm 1)))) (dw_or1 (dt_cmp (op_neD hr.units) s_ne (dk_ex (de_callB call_len_seq s_len T.b_len (da_cons (dk_nm 0) da_nil))) (dk_ex (de_callB call_len_seq s_len T.b_len (da_cons (dk_nm 1) da_nil))))))) (dss_one (ds_ret de_bl)) dss_nil)
      (dss_one (ds_ret (de_callB (cr_all rfl) s_all T.b_all (da_cons (dk_ex (de_comp (own := [("_law_k", 2)]) rfl nd (blkOk_by rfl) (by decide) (di_range1 T.b_range (da_cons (dk_ex (de_callB call_len_seq s_len T.b_len (da_cons (dk_nm 1) da_nil))) da_nil)) (fun _ => pg_name (i := 2) nd rfl (by first | exact Or.inl rfl | exact Or.inr rfl)) (gsnd_n (i := 2) (by decide)) (gw_n (i := 2) (by decide)) (fun _ => dts_nil) (fun _ => (de_call ih (hr.mono (Nat.le_refl _)) T.m__law_same T.F__law_same.kp T.b__law_same takes0N (da_cons (dk_ex (de_ix ix_lt s_ix (dk_nm 0) (dk_nm 2))) (da_cons (dk_ex (de_ix ix_lt s_ix (dk_nm 1) (dk_nm 2))) da_nil)))))) da_nil)))))))))))
/-! _law_draws -/
def m__law_draws : MS :=
  mSeq (mSet 1 (mAll oLst []))
  (mSeq (mSet 2 (mOp oPlus [.ex (mC (.int 30871)), .ex (mOp oMul [.ex (mC (.int 1229)), .ex (mOp oLen [.nm 0])])]))
  (mSeq (mFor (mIt itS (mN 0)) (gN 3) (mIf (mB (mOp oGe [.nm 3, .ex (mOp oPow [.ex (mC (.int 10)), .ex (mC (.int 18))])])) (mSeq (mSet 4 (mN 3))
  (mFor (mRg [.ex (mC (.int 52))]) (gN 5) (mIf (mB (mOp oGt [.nm 4, .ex (mC (.int 0))])) (mSeq (mExpr (mMut 1 fApp [.ex (mOp oMod [.ex (mOp oInt [.nm 4]), .ex (mC (.int 1033))])]))
  (mSet 4 (mOp oDiv [.nm 4, .ex (mC (.int 1033))]))) (mPass)))) (mSeq (mSet 2 (mOp oMod [.ex (mOp oInt [.ex (mOp oPlus [.ex (mOp oPlus [.ex (mOp oMul [.nm 2, .ex (mC (.int 40692))]), .ex (mOp oMul [.nm 3, .ex (mC (.int 3797))])]), .ex (mC (.int 23))])]), .ex (mC (.int 2147483399))]))
  (mExpr (mMut 1 fApp [.ex (mOp oMod [.ex (mOp oInt [.ex (mOp oPlus [.ex (mOp oMul [.nm 2, .ex (mC (.int 31013))]), .ex (mC (.int 17))])]), .ex (mC (.int 1999853))])])))))
  (mSeq (mExpr (mMut 1 fRev []))
  (mRet (mOp oPlus [.ex (mAll oLst [.ex (mN 2)]), .nm 1])))))
def D__law_draws : List O → FR := fnD [0] 6 m__law_draws
theorem sc__law_draws : FnScope ["_law_script", "_law_row", "_law_state", "_law_cell", "_law_rest", "_law_k"] ["_law_script"] (defScope s__law_draws) := ⟨rfl, rfl, rfl, by decide +kernel, rfl, by decide +kernel, by decide +kernel⟩
theorem ok__law_draws {P : Program} {w : World} {K : PySem.W.Frag} {mg : Str → Option Value} {base : Heap} {ad : Nat → Addr} {fdn : Nat → FuncData} (T : Txt K mg ad fdn) : FnOk P w K mg base (L2N.CX P w) 1 (ad 26) (fdn 26) ["_law_script"] (FP K mg 1 D__law_draws) := by
  refine ok_def [0] T.F__law_draws sc__law_draws fun cdv A outer s H E hr => ?_
  have nd := sc__law_draws.nd
  have tk := L2N.takes_of (X := cxOf (L2N.CX P w) P w K mg base ["_law_script", "_law_row", "_law_state", "_law_cell", "_law_rest", "_law_k"] "_law_draws" (defScope s__law_draws) (ad 26) cdv A outer s H E) rfl rfl rfl rfl
  have po := passes_of (X := cxOf (L2N.CX P w) P w K mg base ["_law_script", "_law_row", "_law_state", "_law_cell", "_law_rest", "_law_k"] "_law_draws" (defScope s__law_draws) (ad 26) cdv A outer s H E) rfl
  exact (dss_cons (ds_set (i := 1) nd (de_lst da_nil))
      (dss_cons (ds_set (i := 2) nd (de_bin op_plus s_plus (dk_ex de_int) (dk_ex (de_bin op_mulA s_mul (dk_ex de_int) (dk_ex (de_callB call_len_seq s_len T.b_len (da_cons (dk_nm 0) da_nil)))))))
      (dss_cons (ds_for po rfl (di_seq (de_n 0)) (dg_n (i := 3) nd) (dss_one (ds_if (dt_cmp op_ge s_ge (dk_nm 3) (dk_ex (de_bin op_pow s_pow (dk_ex de_int) (dk_ex de_int)))) (dss_cons (ds_set (i := 4) nd (de_n 3))
      (dss_one (ds_for po rfl (di_range1 T.b_range (da_cons (dk_ex de_int) da_nil)) (dg_n (i := 5) nd) (dss_one (ds_if (dt_cmp op_gt s_gt (dk_nm 4) (dk_ex de_int)) (dss_cons (ds_expr (de_mut (i := 1) PySem.F.plainAttrs_list PySem.F.slot_list_append PySem.F.type_list_append mt_append s_app (da_cons (dk_ex (de_bin op_modN s_mod (dk_ex (de_callTy call_int1 s_int T.b_int (da_cons (dk_nm 4) da_nil))) (dk_ex de_int))) da_nil)))
      (dss_one (ds_set (i := 4) nd (de_bin op_fdivW s_div (dk_nm 4) (dk_ex de_int))))) dss_nil))))) (dss_cons (ds_set (i := 2) nd (de_bin op_modN s_mod (dk_ex (de_callTy call_int1 s_int T.b_int (da_cons (dk_ex (de_bin op_plus s_plus (dk_ex (de_bin op_plus s_plus (dk_ex (de_bin op_mulA s_mul (dk_nm 2) (dk_ex de_int))) (dk_ex (de_bin op_mulA s_mul (dk_nm 3) (dk_ex de_int))))) (dk_ex de_int))) da_nil))) (dk_ex de_int)))
      (dss_one (ds_expr (de_mut (i := 1) PySem.F.plainAttrs_list PySem.F.slot_list_append PySem.F.type_list_append mt_append s_app (da_cons (dk_ex (de_bin op_modN s_mod (dk_ex (de_callTy call_int1 s_int T.b_int (da_cons (dk_ex (de_bin op_plus s_plus (dk_ex (de_bin op_mulA s_mul (dk_nm 2) (dk_ex de_int))) (dk_ex de_int))) da_nil))) (dk_ex de_int))) da_nil))))))))
      (dss_cons (ds_expr (de_mut0 (i := 1) PySem.F.plainAttrs_list PySem.F.slot_list_reverse PySem.F.type_list_reverse mt_reverse s_rev))
      (dss_one (ds_ret (de_bin op_plus s_plus (dk_ex (de_lst (da_cons (dk_ex (de_n 2)) da_nil))) (dk_nm 1))))))))
/-! _law_take -/
def m__law_take : MS :=
  mSeq (mIf (mB (mOp oGt [.ex (mOp oLen [.nm 0]), .ex (mC (.int 1))])) (mRet (mOp oMod [.ex (mOp oInt [.ex (mMut 0 fPop [])]), .nm 1])) (mPass))
  (mSeq (mPut 0 (mOp oMod [.ex (mOp oInt [.ex (mOp oPlus [.ex (mOp oMul [.ex (mOp oIx [.nm 0, .ex (mC (.int 0))]), .ex (mC (.int 40692))]), .ex (mC (.int 21001))])]), .ex (mC (.int 2147483399))]) (.ex (mC (.int 0))))
  (mRet (mOp oMod [.ex (mOp oInt [.ex (mOp oDiv [.ex (mOp oMul [.ex (mOp oIx [.nm 0, .ex (mC (.int 0))]), .ex (mC (.int 11))]), .ex (mC (.int 1039))])]), .nm 1])))
def D__law_take : List O → FR := fnD [0, 1] 2 m__law_take
theorem sc__law_take : FnScope ["_law_draws_here", "_law_many"] ["_law_draws_here", "_law_many"] (defScope s__law_take) := ⟨rfl, rfl, rfl, by decide +kernel, rfl, by decide +kernel, by decide +kernel⟩
theorem ok__law_take {P : Program} {w : World} {K : PySem.W.Frag} {mg : Str → Option Value} {base : Heap} {ad : Nat → Addr} {fdn : Nat → FuncData} (T : Txt K mg ad fdn) : FnOk P w K mg base (L2N.CX P w) 1 (ad 27) (fdn 27) ["_law_draws_here", "_law_many"] (FP K mg 2 D__law_take) := by
  refine ok_def [0, 1] T.F__law_take sc__law_take fun cdv A outer s H E hr => ?_
  have nd := sc__law_take.nd
  have tk := L2N.takes_of (X := cxOf (L2N.CX P w) P w K mg base ["_law_draws_here", "_law_many"] "_law_take" (defScope s__law_take) (ad 27) cdv A outer s H E) rfl rfl rfl rfl
  have po := passes_of (X := cxOf (L2N.CX P w) P w K mg base ["_law_draws_here", "_law_many"] "_law_take" (defScope s__law_take) (ad 27) cdv A outer s H E) rfl
  exact (dss_cons (ds_if (dt_cmp op_gt s_gt (dk_ex (de_callB call_len_seq s_len T.b_len (da_cons (dk_nm 0) da_nil))) (dk_ex de_int)) (dss_one (ds_ret (de_bin op_modN s_mod (dk_ex (de_callTy call_int1 s_int T.b_int (da_cons (dk_ex (de_mut0 (i := 0) PySem.F.plainAttrs_list PySem.F.slot_list_pop PySem.F.type_list_pop mt_pop s_pop)) da_nil))) (dk_nm 1)))) dss_nil)
      (dss_cons (ds_put (i := 0) (de_bin op_modN s_mod (dk_ex (de_callTy call_int1 s_int T.b_int (da_cons (dk_ex (de_bin op_plus s_plus (dk_ex (de_bin op_mulA s_mul (dk_ex (de_ix ix_lt s_ix (dk_nm 0) (dk_ex de_int))) (dk_ex de_int))) (dk_ex de_int))) da_nil))) (dk_ex de_int)) (dk_ex de_int))
      (dss_one (ds_ret (de_bin op_modN s_mod (dk_ex (de_callTy call_int1 s_int T.b_int (da_cons (dk_ex (de_bin op_fdivW s_div (dk_ex (de_bin op_mulA s_mul (dk_ex (de_ix ix_lt s_ix (dk_nm 0) (dk_ex de_int))) (dk_ex de_int))) (dk_ex de_int))) da_nil))) (dk_nm 1))))))
/-! _law_drawn_life -/
def m__law_drawn_life : MS :=
  mSeq (mSet 1 (mComp (mRg [.ex (mOp oPlus [.ex (mC (.int 1)), .ex (mCall D__law_take [.nm 0, .ex (mC (.int 3))])])]) [5] (gN 5) (mYes) (mOp oPlus [.ex (mC (.int 2)), .ex (mCall D__law_take [.nm 0, .ex (mC (.int 3))])])))
  (mSeq (mSet 2 (mComp (mIt itS (mN 1)) [8] (gN 8) (mYes) (mCall D__law_take [.nm 0, .nm 8])))
  (mSeq (mSet 3 (mC (.int 0)))
  (mSeq (mSet 4 (mAll oLst [.ex (mAll oTup [.ex (mOp (op1 toTup) [.nm 2]), .ex (mC (.int 0))])]))
  (mSeq (mFor (mRg [.ex (mCall D__law_take [.nm 0, .ex (mC (.int 14))])]) (gN 5) (mSeq (mSet 6 (mCall D__law_take [.nm 0, .ex (mC (.int 8))]))
  (mSeq (mIf (mB (mOp (oEq false) [.nm 6, .ex (mC (.int 0))])) (mSet 2 (mComp (mIt itS (mN 1)) [8] (gN 8) (mYes) (mCall D__law_take [.nm 0, .nm 8]))) (mIf (mB (mOp oGt [.nm 6, .ex (mC (.int 1))])) (mSeq (mSet 7 (mCall D__law_take [.nm 0, .ex (mOp oLen [.nm 1])]))
  (mPut 2 (mOp oMod [.ex (mOp oInt [.ex (mOp oPlus [.ex (mOp oPlus [.ex (mOp oIx [.nm 2, .nm 7]), .ex (mC (.int 1))]), .ex (mCall D__law_take [.nm 0, .ex (mOp oSub [.ex (mOp oIx [.nm 1, .nm 7]), .ex (mC (.int 1))])])])]), .ex (mOp oIx [.nm 1, .nm 7])]) (.nm 7))) (mPass)))
  (mSeq (mSet 3 (mOp oPlus [.nm 3, .ex (mOp oInt [.ex (mOp oGt [.ex (mCall D__law_take [.nm 0, .ex (mC (.int 4))]), .ex (mC (.int 0))])])]))
  (mExpr (mMut 4 fApp [.ex (mAll oTup [.ex (mOp (op1 toTup) [.nm 2]), .ex (mN 3)])]))))))
  (mRet (mAll oTup [.ex (mOp (op1 toTup) [.nm 1]), .ex (mOp (op1 toTup) [.nm 4])]))))))
def D__law_drawn_life : List O → FR := fnD [0] 9 m__law_drawn_life
theorem sc__law_drawn_life : FnScope ["_law_draws_here", "_law_sizes", "_law_row", "_law_stage", "_law_spots", "_law_k", "_law_kind", "_law_dial", "_law_size"] ["_law_draws_here"] (defScope s__law_drawn_life) := ⟨rfl, rfl, rfl, by decide +kernel, rfl, by decide +kernel, by decide +kernel⟩
theorem ok__law_drawn_life {P : Program} {w : World} {K : PySem.W.Frag} {mg : Str → Option Value} {base : Heap} {ad : Nat → Addr} {fdn : Nat → FuncData} (T : Txt K mg ad fdn) : FnOk P w K mg base (L2N.CX P w) 2 (ad 28) (fdn 28) ["_law_draws_here"] (FP K mg 1 D__law_drawn_life) := by
  refine ok_def [0] T.F__law_drawn_life sc__law_drawn_life fun cdv A outer s H E hr => ?_
  have nd := sc__law_drawn_life.nd
  have tk := L2N.takes_of (X := cxOf (L2N.CX P w) P w K mg base ["_law_draws_here", "_law_sizes", "_law_row", "_law_stage", "_law_spots", "_law_k", "_law_kind", "_law_dial", "_law_size"] "_law_drawn_life" (defScope s__law_drawn_life) (ad 28) cdv A outer s H E) rfl rfl rfl rfl
  have po := passes_of (X := cxOf (L2N.CX P w) P w K mg base ["_law_draws_here", "_law_sizes", "_law_row", "_law_stage", "_law_spots", "_law_k", "_law_kind", "_law_dial", "_law_size"] "_law_drawn_life" (defScope s__law_drawn_life) (ad 28) cdv A outer s H E) rfl
  exact (dss_cons (ds_comp (i := 1) (own := [("_law_k", 5)]) rfl nd (blkOk_by rfl) (by decide) (di_range1 T.b_range (da_cons (dk_ex (de_bin op_plus s_plus (dk_ex de_int) (dk_ex (de_call (ok__law_take T) (hr.mono (by decide)) T.m__law_take T.F__law_take.kp T.b__law_take tk (da_cons (dk_nm 0) (da_cons (dk_ex de_int) da_nil)))))) da_nil)) (fun _ => pg_name (i := 5) nd rfl (by first | exact Or.inl rfl | exact Or.inr rfl)) (gsnd_n (i := 5) (by decide)) (gw_n (i := 5) (by decide)) (fun _ => dts_nil) (fun _ => (de_bin op_plus s_plus (dk_ex de_int) (dk_ex (de_call (ok__law_take T) (hr.mono (by decide)) T.m__law_take T.F__law_take.kp T.b__law_take takes0N (da_cons (dk_nm 0) (da_cons (dk_ex de_int) da_nil)))))) (sw_true rfl rfl rfl (by decide +kernel)))
      (dss_cons (ds_comp (i := 2) (own := [("_law_size", 8)]) rfl nd (blkOk_by rfl) (by decide) (di_seq (de_n 1)) (fun _ => pg_name (i := 8) nd rfl (by first | exact Or.inl rfl | exact Or.inr rfl)) (gsnd_n (i := 8) (by decide)) (gw_n (i := 8) (by decide)) (fun _ => dts_nil) (fun _ => (de_call (ok__law_take T) (hr.mono (by decide)) T.m__law_take T.F__law_take.kp T.b__law_take takes0N (da_cons (dk_nm 0) (da_cons (dk_nm 8) da_nil)))) (sw_true rfl rfl rfl (by decide +kernel)))
      (dss_cons (ds_set (i := 3) nd de_int)
      (dss_cons (ds_set (i := 4) nd (de_lst (da_cons (dk_ex (de_tup (da_cons (dk_ex (de_callTy call_tuple_of s_tuple T.b_tuple (da_cons (dk_nm 2) da_nil))) (da_cons (dk_ex de_int) da_nil)))) da_nil)))
      (dss_cons (ds_for po rfl (di_range1 T.b_range (da_cons (dk_ex (de_call (ok__law_take T) (hr.mono (by decide)) T.m__law_take T.F__law_take.kp T.b__law_take tk (da_cons (dk_nm 0) (da_cons (dk_ex de_int) da_nil)))) da_nil)) (dg_n (i := 5) nd) (dss_cons (ds_set (i := 6) nd (de_call (ok__law_take T) (hr.mono (by decide)) T.m__law_take T.F__law_take.kp T.b__law_take tk (da_cons (dk_nm 0) (da_cons (dk_ex de_int) da_nil))))
      (dss_cons (ds_if (dt_cmp (op_eqD hr.units) s_eq (dk_nm 6) (dk_ex de_int)) (dss_one (ds_comp (i := 2) (own := [("_law_size", 8)]) rfl nd (blkOk_by rfl) (by decide) (di_seq (de_n 1)) (fun _ => pg_name (i := 8) nd rfl (by first | exact Or.inl rfl | exact Or.inr rfl)) (gsnd_n (i := 8) (by decide)) (gw_n (i := 8) (by decide)) (fun _ => dts_nil) (fun _ => (de_call (ok__law_take T) (hr.mono (by decide)) T.m__law_take T.F__law_take.kp T.b__law_take takes0N (da_cons (dk_nm 0) (da_cons (dk_nm 8) da_nil)))) (sw_true rfl rfl rfl (by decide +kernel)))) (dss_one (ds_if (dt_cmp op_gt s_gt (dk_nm 6) (dk_ex de_int)) (dss_cons (ds_set (i := 7) nd (de_call (ok__law_take T) (hr.mono (by decide)) T.m__law_take T.F__law_take.kp T.b__law_take tk (da_cons (dk_nm 0) (da_cons (dk_ex (de_callB call_len_seq s_len T.b_len (da_cons (dk_nm 1) da_nil))) da_nil))))
      (dss_one (ds_put (i := 2) (de_bin op_modN s_mod (dk_ex (de_callTy call_int1 s_int T.b_int (da_cons (dk_ex (de_bin op_plus s_plus (dk_ex (de_bin op_plus s_plus (dk_ex (de_ix ix_lt s_ix (dk_nm 2) (dk_nm 7))) (dk_ex de_int))) (dk_ex (de_call (ok__law_take T) (hr.mono (by decide)) T.m__law_take T.F__law_take.kp T.b__law_take tk (da_cons (dk_nm 0) (da_cons (dk_ex (de_bin op_sub s_sub (dk_ex (de_ix ix_lt s_ix (dk_nm 1) (dk_nm 7))) (dk_ex de_int))) da_nil)))))) da_nil))) (dk_ex (de_ix ix_lt s_ix (dk_nm 1) (dk_nm 7)))) (dk_nm 7)))) dss_nil)))
      (dss_cons (ds_set (i := 3) nd (de_bin op_plus s_plus (dk_nm 3) (dk_ex (de_callTy call_int1 s_int T.b_int (da_cons (dk_ex (de_cmp op_gt s_gt (dk_ex (de_call (ok__law_take T) (hr.mono (by decide)) T.m__law_take T.F__law_take.kp T.b__law_take tk (da_cons (dk_nm 0) (da_cons (dk_ex de_int) da_nil)))) (dk_ex de_int))) da_nil)))))
      (dss_one (ds_expr (de_mut (i := 4) PySem.F.plainAttrs_list PySem.F.slot_list_append PySem.F.type_list_append mt_append s_app (da_cons (dk_ex (de_tup (da_cons (dk_ex (de_callTy call_tuple_of s_tuple T.b_tuple (da_cons (dk_nm 2) da_nil))) (da_cons (dk_ex (de_n 3)) da_nil)))) da_nil))))))))
      (dss_one (ds_ret (de_tup (da_cons (dk_ex (de_callTy call_tuple_of s_tuple T.b_tuple (da_cons (dk_nm 1) da_nil))) (da_cons (dk_ex (de_callTy call_tuple_of s_tuple T.b_tuple (da_cons (dk_nm 4) da_nil))) da_nil))))))))))
/-! _law_order -/
def m__law_order : MS :=
  mSeq (mSet 2 (mCall D__law_take [.nm 0, .nm 1]))
  (mSeq (mSet 3 (mComp (mRg [.nm 1]) [4] (gN 4) (mYes) (mOp oMod [.ex (mOp oInt [.ex (mOp oPlus [.nm 2, .nm 4])]), .nm 1])))
  (mSeq (mIf (mB (mOp (oEq false) [.ex (mCall D__law_take [.nm 0, .ex (mC (.int 2))]), .ex (mC (.int 0))])) (mExpr (mMut 3 fRev [])) (mPass))
  (mRet (mMv 3))))
def D__law_order : List O → FR := fnD [0, 1] 5 m__law_order
theorem sc__law_order : FnScope ["_law_draws_here", "_law_size", "_law_first", "_law_order_here", "_law_k"] ["_law_draws_here", "_law_size"] (defScope s__law_order) := ⟨rfl, rfl, rfl, by decide +kernel, rfl, by decide +kernel, by decide +kernel⟩
theorem ok__law_order {P : Program} {w : World} {K : PySem.W.Frag} {mg : Str → Option Value} {base : Heap} {ad : Nat → Addr} {fdn : Nat → FuncData} (T : Txt K mg ad fdn) : FnOk P w K mg base (L2N.CX P w) 2 (ad 29) (fdn 29) ["_law_draws_here", "_law_size"] (FP K mg 2 D__law_order) := by
  refine ok_def [0, 1] T.F__law_order sc__law_order fun cdv A outer s H E hr => ?_
  have nd := sc__law_order.nd
  have tk := L2N.takes_of (X := cxOf (L2N.CX P w) P w K mg base ["_law_draws_here", "_law_size", "_law_first", "_law_order_here", "_law_k"] "_law_order" (defScope s__law_order) (ad 29) cdv A outer s H E) rfl rfl rfl rfl
  have po := passes_of (X := cxOf (L2N.CX P w) P w K mg base ["_law_draws_here", "_law_size", "_law_first", "_law_order_here", "_law_k"] "_law_order" (defScope s__law_order) (ad 29) cdv A outer s H E) rfl
  exact (dss_cons (ds_set (i := 2) nd (de_call (ok__law_take T) (hr.mono (by decide)) T.m__law_take T.F__law_take.kp T.b__law_take tk (da_cons (dk_nm 0) (da_cons (dk_nm 1) da_nil))))
      (dss_cons (ds_comp (i := 3) (own := [("_law_k", 4)]) rfl nd (blkOk_by rfl) (by decide) (di_range1 T.b_range (da_cons (dk_nm 1) da_nil)) (fun _ => pg_name (i := 4) nd rfl (by first | exact Or.inl rfl | exact Or.inr rfl)) (gsnd_n (i := 4) (by decide)) (gw_n (i := 4) (by decide)) (fun _ => dts_nil) (fun _ => (de_bin op_modN s_mod (dk_ex (de_callTy call_int1 s_int T.b_int (da_cons (dk_ex (de_bin op_plus s_plus (dk_nm 2) (dk_nm 4))) da_nil))) (dk_nm 1))) (sw_true rfl rfl rfl (by decide +kernel)))
      (dss_cons (ds_if (dt_cmp (op_eqD hr.units) s_eq (dk_ex (de_call (ok__law_take T) (hr.mono (by decide)) T.m__law_take T.F__law_take.kp T.b__law_take tk (da_cons (dk_nm 0) (da_cons (dk_ex de_int) da_nil)))) (dk_ex de_int)) (dss_one (ds_expr (de_mut0 (i := 3) PySem.F.plainAttrs_list PySem.F.slot_list_reverse PySem.F.type_list_reverse mt_reverse s_rev))) dss_nil)
      (dss_one (ds_ret (de_mv 3))))))
/-! _law_built_life -/
def m__law_built_life : MS :=
  mSeq (mSet 1 (mAll oLst [.ex (mOp oPlus [.ex (mC (.int 2)), .ex (mCall D__law_take [.nm 0, .ex (mC (.int 3))])]), .ex (mOp oPlus [.ex (mC (.int 2)), .ex (mCall D__law_take [.nm 0, .ex (mC (.int 3))])])]))
  (mSeq (mSet 2 (mAll oLst [.ex (mFz (mCall D__law_order [.nm 0, .ex (mOp oIx [.nm 1, .ex (mC (.int 0))])])), .ex (mFz (mCall D__law_order [.nm 0, .ex (mOp oIx [.nm 1, .ex (mC (.int 1))])]))]))
  (mSeq (mSet 3 (mAll oLst [.ex (mC (.int 0)), .ex (mC (.int 0))]))
  (mSeq (mSet 4 (mAll oLst [.ex (mAll oTup [.ex (mOp oIx [.ex (mOp oIx [.nm 2, .ex (mC (.int 0))]), .ex (mC (.int 0))]), .ex (mOp oIx [.ex (mOp oIx [.nm 2, .ex (mC (.int 1))]), .ex (mC (.int 0))])])]))
  (mSeq (mFor (mRg [.ex (mOp oSub [.ex (mOp oPlus [.ex (mOp oIx [.nm 1, .ex (mC (.int 0))]), .ex (mOp oIx [.nm 1, .ex (mC (.int 1))])]), .ex (mC (.int 2))])]) (gN 5) (mSeq (mSet 6 (mCall D__law_take [.nm 0, .ex (mC (.int 2))]))
  (mSeq (mIf (mB (mOp (oEq false) [.ex (mOp oIx [.nm 3, .nm 6]), .ex (mOp oSub [.ex (mOp oIx [.nm 1, .nm 6]), .ex (mC (.int 1))])])) (mSet 6 (mOp oSub [.ex (mC (.int 1)), .nm 6])) (mPass))
  (mSeq (mPut 3 (mOp oPlus [.ex (mOp oIx [.nm 3, .nm 6]), .ex (mC (.int 1))]) (.nm 6))
  (mExpr (mMut 4 fApp [.ex (mAll oTup [.ex (mOp oIx [.ex (mOp oIx [.nm 2, .ex (mC (.int 0))]), .ex (mOp oIx [.nm 3, .ex (mC (.int 0))])]), .ex (mOp oIx [.ex (mOp oIx [.nm 2, .ex (mC (.int 1))]), .ex (mOp oIx [.nm 3, .ex (mC (.int 1))])])])]))))))
  (mSeq (mSet 7 (mCall D__law_take [.nm 0, .ex (mC (.int 3))]))
  (mSeq (mIf (mB (mOp oGt [.nm 7, .ex (mC (.int 0))])) (mSeq (mSet 8 (mComp (mRg [.ex (mC (.int 2))]) [14] (gN 14) (mYes) (mOp oSub [.ex (mOp oIx [.ex (mOp oIx [.nm 4, .ex (mOp oNeg [.ex (mC (.int 1))])]), .nm 14]), .ex (mOp oIx [.ex (mOp oIx [.nm 4, .ex (mC (.int 0))]), .nm 14])])))
  (mSeq (mSet 9 (mAll oLst []))
  (mSeq (mFor (mRg [.ex (mOp oPlus [.ex (mC (.int 1)), .nm 7])]) (gN 10) (mFor (mIt itS (mN 4)) (gN 11) (mExpr (mMut 9 fApp [.ex (mAll oTup [.ex (mN 10), .ex (mOp oMod [.ex (mOp oInt [.ex (mOp oPlus [.ex (mOp oIx [.nm 11, .ex (mC (.int 0))]), .ex (mOp oMul [.nm 10, .ex (mOp oIx [.nm 8, .ex (mC (.int 0))])])])]), .ex (mOp oIx [.nm 1, .ex (mC (.int 0))])]), .ex (mOp oMod [.ex (mOp oInt [.ex (mOp oPlus [.ex (mOp oIx [.nm 11, .ex (mC (.int 1))]), .ex (mOp oMul [.nm 10, .ex (mOp oIx [.nm 8, .ex (mC (.int 1))])])])]), .ex (mOp oIx [.nm 1, .ex (mC (.int 1))])])])]))))
  (mSeq (mSet 4 (mN 9))
  (mSet 1 (mOp oPlus [.ex (mAll oLst [.ex (mOp oPlus [.ex (mC (.int 1)), .nm 7])]), .nm 1])))))) (mPass))
  (mSeq (mIf (mTOr (mB (mOp (oEq false) [.nm 7, .ex (mC (.int 0))])) (mTAnd (mB (mOp (oEq false) [.nm 7, .ex (mC (.int 1))])) (mB (mOp oLe [.ex (mOp oLen [.nm 4]), .ex (mC (.int 10))])))) (mSet 4 (mComp (mRg [.ex (mOp oMul [.ex (mC (.int 2)), .ex (mOp oLen [.nm 4])])]) [5] (gN 5) (mYes) (mOp oIx [.nm 4, .ex (mOp oDiv [.nm 5, .ex (mC (.int 2))])]))) (mPass))
  (mSeq (mSet 12 (mOp (oEq false) [.ex (mCall D__law_take [.nm 0, .ex (mC (.int 2))]), .ex (mC (.int 0))]))
  (mSeq (mSet 13 (mComp (mRg [.ex (mOp oLen [.nm 4])]) [5] (gN 5) (mYes) (mAll oTup [.ex (mOp oIx [.nm 4, .nm 5]), .ex (mN 5)])))
  (mSeq (mIf (mTru (.nm 12)) (mSet 13 (mComp (mRg [.ex (mOp oLen [.nm 4])]) [5] (gN 5) (mYes) (mAll oTup [.ex (mOp oIx [.nm 4, .nm 5]), .ex (mOp oDiv [.nm 5, .ex (mC (.int 2))])]))) (mPass))
  (mRet (mAll oTup [.ex (mOp (op1 toTup) [.nm 1]), .ex (mOp (op1 toTup) [.ex (mSlice (.nm 13) none (some (mOp oPlus [.ex (mC (.int 1)), .ex (mCall D__law_take [.nm 0, .ex (mC (.int 60))])])))])]))))))))))))
def D__law_built_life : List O → FR := fnD [0] 15 m__law_built_life
theorem sc__law_built_life : FnScope ["_law_draws_here", "_law_sizes", "_law_orders", "_law_at", "_law_rows", "_law_k", "_law_dial", "_law_around", "_law_shift", "_law_made", "_law_copy", "_law_row", "_law_apart", "_law_spots", "_law_d"] ["_law_draws_here"] (defScope s__law_built_life) := ⟨rfl, rfl, rfl, by decide +kernel, rfl, by decide +kernel, by decide +kernel⟩
theorem ok__law_built_life {P : Program} {w : World} {K : PySem.W.Frag} {mg : Str → Option Value} {base : Heap} {ad : Nat → Addr} {fdn : Nat → FuncData} (T : Txt K mg ad fdn) : FnOk P w K mg base (L2N.CX P w) 3 (ad 30) (fdn 30) ["_law_draws_here"] (FP K mg 1 D__law_built_life) := by
  refine ok_def [0] T.F__law_built_life sc__law_built_life fun cdv A outer s H E hr => ?_
  have nd := sc__law_built_life.nd
  have tk := L2N.takes_of (X := cxOf (L2N.CX P w) P w K mg base ["_law_draws_here", "_law_sizes", "_law_orders", "_law_at", "_law_rows", "_law_k", "_law_dial", "_law_around", "_law_shift", "_law_made", "_law_copy", "_law_row", "_law_apart", "_law_spots", "_law_d"] "_law_built_life" (defScope s__law_built_life) (ad 30) cdv A outer s H E) rfl rfl rfl rfl
  have po := passes_of (X := cxOf (L2N.CX P w) P w K mg base ["_law_draws_here", "_law_sizes", "_law_orders", "_law_at", "_law_rows", "_law_k", "_law_dial", "_law_around", "_law_shift", "_law_made", "_law_copy", "_law_row", "_law_apart", "_law_spots", "_law_d"] "_law_built_life" (defScope s__law_built_life) (ad 30) cdv A outer s H E) rfl
  exact (dss_cons (ds_set (i := 1) nd (de_lst (da_cons (dk_ex (de_bin op_plus s_plus (dk_ex de_int) (dk_ex (de_call (ok__law_take T) (hr.mono (by decide)) T.m__law_take T.F__law_take.kp T.b__law_take tk (da_cons (dk_nm 0) (da_cons (dk_ex de_int) da_nil)))))) (da_cons (dk_ex (de_bin op_plus s_plus (dk_ex de_int) (dk_ex (de_call (ok__law_take T) (hr.mono (by decide)) T.m__law_take T.F__law_take.kp T.b__law_take tk (da_cons (dk_nm 0) (da_cons (dk_ex de_int) da_nil)))))) da_nil))))
      (dss_cons (ds_set (i := 2) nd (de_lst (da_cons (dk_ex (de_fz (de_call (ok__law_order T) (hr.mono (by decide)) T.m__law_order T.F__law_order.kp T.b__law_order tk (da_cons (dk_nm 0) (da_cons (dk_ex (de_ix ix_lt s_ix (dk_nm 1) (dk_ex de_int))) da_nil))))) (da_cons (dk_ex (de_fz (de_call (ok__law_order T) (hr.mono (by decide)) T.m__law_order T.F__law_order.kp T.b__law_order tk (da_cons (dk_nm 0) (da_cons (dk_ex (de_ix ix_lt s_ix (dk_nm 1) (dk_ex de_int))) da_nil))))) da_nil))))
      (dss_cons (ds_set (i := 3) nd (de_lst (da_cons (dk_ex de_int) (da_cons (dk_ex de_int) da_nil))))
      (dss_cons (ds_set (i := 4) nd (de_lst (da_cons (dk_ex (de_tup (da_cons (dk_ex (de_ix ix_lt s_ix (dk_ex (de_ix ix_lt s_ix (dk_nm 2) (dk_ex de_int))) (dk_ex de_int))) (da_cons (dk_ex (de_ix ix_lt s_ix (dk_ex (de_ix ix_lt s_ix (dk_nm 2) (dk_ex de_int))) (dk_ex de_int))) da_nil)))) da_nil)))
      (dss_cons (ds_for po rfl (di_range1 T.b_range (da_cons (dk_ex (de_bin op_sub s_sub (dk_ex (de_bin op_plus s_plus (dk_ex (de_ix ix_lt s_ix (dk_nm 1) (dk_ex de_int))) (dk_ex (de_ix ix_lt s_ix (dk_nm 1) (dk_ex de_int))))) (dk_ex de_int))) da_nil)) (dg_n (i := 5) nd) (dss_cons (ds_set (i := 6) nd (de_call (ok__law_take T) (hr.mono (by decide)) T.m__law_take T.F__law_take.kp T.b__law_take tk (da_cons (dk_nm 0) (da_cons (dk_ex de_int) da_nil))))
      (dss_cons (ds_if (dt_cmp (op_eqD hr.units) s_eq (dk_ex (de_ix ix_lt s_ix (dk_nm 3) (dk_nm 6))) (dk_ex (de_bin op_sub s_sub (dk_ex (de_ix ix_lt s_ix (dk_nm 1) (dk_nm 6))) (dk_ex de_int)))) (dss_one (ds_set (i := 6) nd (de_bin op_sub s_sub (dk_ex de_int) (dk_nm 6)))) dss_nil)
      (dss_cons (ds_put (i := 3) (de_bin op_plus s_plus (dk_ex (de_ix ix_lt s_ix (dk_nm 3) (dk_nm 6))) (dk_ex de_int)) (dk_nm 6))
      (dss_one (ds_expr (de_mut (i := 4) PySem.F.plainAttrs_list PySem.F.slot_list_append PySem.F.type_list_append mt_append s_app (da_cons (dk_ex (de_tup (da_cons (dk_ex (de_ix ix_lt s_ix (dk_ex (de_ix ix_lt s_ix (dk_nm 2) (dk_ex de_int))) (dk_ex (de_ix ix_lt s_ix (dk_nm 3) (dk_ex de_int))))) (da_cons (dk_ex (de_ix ix_lt s_ix (dk_ex (de_ix ix_lt s_ix (dk_nm 2) (dk_ex de_int))) (dk_ex (de_ix ix_lt s_ix (dk_nm 3) (dk_ex de_int))))) da_nil)))) da_nil))))))))
      (dss_cons (ds_set (i := 7) nd (de_call (ok__law_take T) (hr.mono (by decide)) T.m__law_take T.F__law_take.kp T.b__law_take tk (da_cons (dk_nm 0) (da_cons (dk_ex de_int) da_nil))))
      (dss_cons (ds_if (dt_cmp op_gt s_gt (dk_nm 7) (dk_ex de_int)) (dss_cons (ds_comp (i := 8) (own := [("_law_d", 14)]) rfl nd (blkOk_by rfl) (by decide) (di_range1 T.b_range (da_cons (dk_ex de_int) da_nil)) (fun _ => pg_name (i := 14) nd rfl (by first | exact Or.inl rfl | exact Or.inr rfl)) (gsnd_n (i := 14) (by decide)) (gw_n (i := 14) (by decide)) (fun _ => dts_nil) (fun _ => (de_bin op_sub s_sub (dk_ex (de_ix ix_lt s_ix (dk_ex (de_ix ix_lt s_ix (dk_nm 4) (dk_ex (de_un un_neg s_neg (dk_ex de_int))))) (dk_nm 14))) (dk_ex (de_ix ix_lt s_ix (dk_ex (de_ix ix_lt s_ix (dk_nm 4) (dk_ex de_int))) (dk_nm 14))))) (sw_true rfl rfl rfl (by decide +kernel)))
      (dss_cons (ds_set (i := 9) nd (de_lst da_nil))
      (dss_cons (ds_for po rfl (di_range1 T.b_range (da_cons (dk_ex (de_bin op_plus s_plus (dk_ex de_int) (dk_nm 7))) da_nil)) (dg_n (i := 10) nd) (dss_one (ds_for po rfl (di_seq (de_n 4)) (dg_n (i := 11) nd) (dss_one (ds_expr (de_mut (i := 9) PySem.F.plainAttrs_list PySem.F.slot_list_append PySem.F.type_list_append mt_append s_app (da_cons (dk_ex (de_tup (da_cons (dk_ex (de_n 10)) (da_cons (dk_ex (de_bin op_modN s_mod (dk_ex (de_callTy call_int1 s_int T.b_int (da_cons (dk_ex (de_bin op_plus s_plus (dk_ex (de_ix ix_lt s_ix (dk_nm 11) (dk_ex de_int))) (dk_ex (de_bin op_mulA s_mul (dk_nm 10) (dk_ex (de_ix ix_lt s_ix (dk_nm 8) (dk_ex de_int))))))) da_nil))) (dk_ex (de_ix ix_lt s_ix (dk_nm 1) (dk_ex de_int))))) (da_cons (dk_ex (de_bin op_modN s_mod (dk_ex (de_callTy call_int1 s_int T.b_int (da_cons (dk_ex (de_bin op_plus s_plus (dk_ex (de_ix ix_lt s_ix (dk_nm 11) (dk_ex de_int))) (dk_ex (de_bin op_mulA s_mul (dk_nm 10) (dk_ex (de_ix ix_lt s_ix (dk_nm 8) (dk_ex de_int))))))) da_nil))) (dk_ex (de_ix ix_lt s_ix (dk_nm 1) (dk_ex de_int))))) da_nil))))) da_nil)))))))
      (dss_cons (ds_set (i := 4) nd (de_n 9))
      (dss_one (ds_set (i := 1) nd (de_bin op_plus s_plus (dk_ex (de_lst (da_cons (dk_ex (de_bin op_plus s_plus (dk_ex de_int) (dk_nm 7))) da_nil))) (dk_nm 1)))))))) dss_nil)
      (dss_cons (ds_if (dt_w (dw_or (dt_cmp (op_eqD hr.units) s_eq (dk_nm 7) (dk_ex de_int)) (dw_or1 (dt_w (dw_and (dt_cmp (op_eqD hr.units) s_eq (dk_nm 7) (dk_ex de_int)) (dw_and1 (dt_cmp op_le s_le (dk_ex (de_callB call_len_seq s_len T.b_len (da_cons (dk_nm 4) da_nil))) (dk_ex de_int)))))))) (dss_one (ds_set (i := 4) nd (de_comp (own := [("_law_k", 5)]) rfl nd (blkOk_by rfl) (by decide) (di_range1 T.b_range (da_cons (dk_ex (de_bin op_mulA s_mul (dk_ex de_int) (dk_ex (de_callB call_len_seq s_len T.b_len (da_cons (dk_nm 4) da_nil))))) da_nil)) (fun _ => pg_name (i := 5) nd rfl (by first | exact Or.inl rfl | exact Or.inr rfl)) (gsnd_n (i := 5) (by decide)) (gw_n (i := 5) (by decide)) (fun _ => dts_nil) (fun _ => (de_ix ix_lt s_ix (dk_nm 4) (dk_ex (de_bin op_fdivW s_div (dk_nm 5) (dk_ex de_int)))))))) dss_nil)
      (dss_cons (ds_set (i := 12) nd (de_cmp (op_eqD hr.units) s_eq (dk_ex (de_call (ok__law_take T) (hr.mono (by decide)) T.m__law_take T.F__law_take.kp T.b__law_take tk (da_cons (dk_nm 0) (da_cons (dk_ex de_int) da_nil)))) (dk_ex de_int)))
      (dss_cons (ds_comp (i := 13) (own := [("_law_k", 5)]) rfl nd (blkOk_by rfl) (by decide) (di_range1 T.b_range (da_cons (dk_ex (de_callB call_len_seq s_len T.b_len (da_cons (dk_nm 4) da_nil))) da_nil)) (fun _ => pg_name (i := 5) nd rfl (by first | exact Or.inl rfl | exact Or.inr rfl)) (gsnd_n (i := 5) (by decide)) (gw_n (i := 5) (by decide)) (fun _ => dts_nil) (fun _ => (de_tup (da_cons (dk_ex (de_ix ix_lt s_ix (dk_nm 4) (dk_nm 5))) (da_cons (dk_ex (de_n 5)) da_nil)))) (sw_true rfl rfl rfl (by decide +kernel)))
      (dss_cons (ds_if (dt_tru (dk_nm 12)) (dss_one (ds_comp (i := 13) (own := [("_law_k", 5)]) rfl nd (blkOk_by rfl) (by decide) (di_range1 T.b_range (da_cons (dk_ex (de_callB call_len_seq s_len T.b_len (da_cons (dk_nm 4) da_nil))) da_nil)) (fun _ => pg_name (i := 5) nd rfl (by first | exact Or.inl rfl | exact Or.inr rfl)) (gsnd_n (i := 5) (by decide)) (gw_n (i := 5) (by decide)) (fun _ => dts_nil) (fun _ => (de_tup (da_cons (dk_ex (de_ix ix_lt s_ix (dk_nm 4) (dk_nm 5))) (da_cons (dk_ex (de_bin op_fdivW s_div (dk_nm 5) (dk_ex de_int))) da_nil)))) (sw_true rfl rfl rfl (by decide +kernel)))) dss_nil)
      (dss_one (ds_ret (de_tup (da_cons (dk_ex (de_callTy call_tuple_of s_tuple T.b_tuple (da_cons (dk_nm 1) da_nil))) (da_cons (dk_ex (de_callTy call_tuple_of s_tuple T.b_tuple (da_cons (dk_ex (de_slice (dk_nm 13) dp_none (dp_some (de_bin op_plus s_plus (dk_ex de_int) (dk_ex (de_call (ok__law_take T) (hr.mono (by decide)) T.m__law_take T.F__law_take.kp T.b__law_take tk (da_cons (dk_nm 0) (da_cons (dk_ex de_int) da_nil)))))))) da_nil))) da_nil))))))))))))))))
/-! _law_life -/
def m__law_life : MS :=
  mSeq (mIf (mB (mOp (oEq false) [.ex (mCall D__law_take [.nm 0, .ex (mC (.int 2))]), .ex (mC (.int 0))])) (mSeq (mSet 1 (mCall D__law_drawn_life [.nm 0]))
  (mSeq (mSet 2 (mOp oPlus [.ex (mC (.int 1)), .ex (mCall D__law_take [.nm 0, .ex (mC (.int 5))])]))
  (mRet (mAll oTup [.ex (mN 1), .ex (mOp (op1 toTup) [.ex (mComp (mRg [.nm 2]) [4] (gN 4) (mYes) (mCall D__law_take [.nm 0, .ex (mOp oLen [.ex (mOp oIx [.nm 1, .ex (mC (.int 0))])])]))])])))) (mPass))
  (mSeq (mSet 1 (mCall D__law_built_life [.nm 0]))
  (mSeq (mSet 3 (mtupleRg (mOp oLen [.ex (mOp oIx [.nm 1, .ex (mC (.int 0))])])))
  (mSeq (mIf (mTAnd (mB (mOp (oEq false) [.ex (mOp oLen [.nm 3]), .ex (mC (.int 3))])) (mB (mOp oGt [.ex (mCall D__law_take [.nm 0, .ex (mC (.int 3))]), .ex (mC (.int 0))]))) (mSet 3 (mAll oTup [.ex (mC (.int 0)), .ex (mC (.int 1)), .ex (mC (.int 2)), .ex (mC (.int 0))])) (mPass))
  (mSeq (mIf (mB (mOp (oEq false) [.ex (mCall D__law_take [.nm 0, .ex (mC (.int 4))]), .ex (mC (.int 0))])) (mSet 3 (mOp oPlus [.nm 3, .ex (mAll oTup [.ex (mCall D__law_take [.nm 0, .ex (mOp oLen [.ex (mOp oIx [.nm 1, .ex (mC (.int 0))])])])])])) (mPass))
  (mRet (mAll oTup [.ex (mN 1), .ex (mN 3)]))))))
def D__law_life : List O → FR := fnD [0] 5 m__law_life
theorem sc__law_life : FnScope ["_law_draws_here", "_law_life_here", "_law_many", "_law_tour", "_law_k"] ["_law_draws_here"] (defScope s__law_life) := ⟨rfl, rfl, rfl, by decide +kernel, rfl, by decide +kernel, by decide +kernel⟩
theorem ok__law_life {P : Program} {w : World} {K : PySem.W.Frag} {mg : Str → Option Value} {base : Heap} {ad : Nat → Addr} {fdn : Nat → FuncData} (T : Txt K mg ad fdn) : FnOk P w K mg base (L2N.CX P w) 4 (ad 31) (fdn 31) ["_law_draws_here"] (FP K mg 1 D__law_life) := by
  refine ok_def [0] T.F__law_life sc__law_life fun cdv A outer s H E hr => ?_
  have nd := sc__law_life.nd
  have tk := L2N.takes_of (X := cxOf (L2N.CX P w) P w K mg base ["_law_draws_here", "_law_life_here", "_law_many", "_law_tour", "_law_k"] "_law_life" (defScope s__law_life) (ad 31) cdv A outer s H E) rfl rfl rfl rfl
  have po := passes_of (X := cxOf (L2N.CX P w) P w K mg base ["_law_draws_here", "_law_life_here", "_law_many", "_law_tour", "_law_k"] "_law_life" (defScope s__law_life) (ad 31) cdv A outer s H E) rfl
  exact (dss_cons (ds_if (dt_cmp (op_eqD hr.units) s_eq (dk_ex (de_call (ok__law_take T) (hr.mono (by decide)) T.m__law_take T.F__law_take.kp T.b__law_take tk (da_cons (dk_nm 0) (da_cons (dk_ex de_int) da_nil)))) (dk_ex de_int)) (dss_cons (ds_set (i := 1) nd (de_call (ok__law_drawn_life T) (hr.mono (by decide)) T.m__law_drawn_life T.F__law_drawn_life.kp T.b__law_drawn_life tk (da_cons (dk_nm 0) da_nil)))
      (dss_cons (ds_set (i := 2) nd (de_bin op_plus s_plus (dk_ex de_int) (dk_ex (de_call (ok__law_take T) (hr.mono (by decide)) T.m__law_take T.F__law_take.kp T.b__law_take tk (da_cons (dk_nm 0) (da_cons (dk_ex de_int) da_nil))))))
      (dss_one (ds_ret (de_tup (da_cons (dk_ex (de_n 1)) (da_cons (dk_ex (de_callTy call_tuple_of s_tuple T.b_tuple (da_cons (dk_ex (de_comp (own := [("_law_k", 4)]) rfl nd (blkOk_by rfl) (by decide) (di_range1 T.b_range (da_cons (dk_nm 2) da_nil)) (fun _ => pg_name (i := 4) nd rfl (by first | exact Or.inl rfl | exact Or.inr rfl)) (gsnd_n (i := 4) (by decide)) (gw_n (i := 4) (by decide)) (fun _ => dts_nil) (fun _ => (de_call (ok__law_take T) (hr.mono (by decide)) T.m__law_take T.F__law_take.kp T.b__law_take takes0N (da_cons (dk_nm 0) (da_cons (dk_ex (de_callB call_len_seq s_len T.b_len (da_cons (dk_ex (de_ix ix_lt s_ix (dk_nm 1) (dk_ex de_int))) da_nil))) da_nil)))))) da_nil))) da_nil))))))) dss_nil)
      (dss_cons (ds_set (i := 1) nd (de_call (ok__law_built_life T) (hr.mono (by decide)) T.m__law_built_life T.F__law_built_life.kp T.b__law_built_life tk (da_cons (dk_nm 0) da_nil)))
      (dss_cons (ds_set (i := 3) nd (de_tupleRg T.b_tuple T.b_range (de_callB call_len_seq s_len T.b_len (da_cons (dk_ex (de_ix ix_lt s_ix (dk_nm 1) (dk_ex de_int))) da_nil))))
      (dss_cons (ds_if (dt_w (dw_and (dt_cmp (op_eqD hr.units) s_eq (dk_ex (de_callB call_len_seq s_len T.b_len (da_cons (dk_nm 3) da_nil))) (dk_ex de_int)) (dw_and1 (dt_cmp op_gt s_gt (dk_ex (de_call (ok__law_take T) (hr.mono (by decide)) T.m__law_take T.F__law_take.kp T.b__law_take tk (da_cons (dk_nm 0) (da_cons (dk_ex de_int) da_nil)))) (dk_ex de_int))))) (dss_one (ds_set (i := 3) nd (de_tup (da_cons (dk_ex de_int) (da_cons (dk_ex de_int) (da_cons (dk_ex de_int) (da_cons (dk_ex de_int) da_nil))))))) dss_nil)
      (dss_cons (ds_if (dt_cmp (op_eqD hr.units) s_eq (dk_ex (de_call (ok__law_take T) (hr.mono (by decide)) T.m__law_take T.F__law_take.kp T.b__law_take tk (da_cons (dk_nm 0) (da_cons (dk_ex de_int) da_nil)))) (dk_ex de_int)) (dss_one (ds_set (i := 3) nd (de_bin op_plus s_plus (dk_nm 3) (dk_ex (de_tup (da_cons (dk_ex (de_call (ok__law_take T) (hr.mono (by decide)) T.m__law_take T.F__law_take.kp T.b__law_take tk (da_cons (dk_nm 0) (da_cons (dk_ex (de_callB call_len_seq s_len T.b_len (da_cons (dk_ex (de_ix ix_lt s_ix (dk_nm 1) (dk_ex de_int))) da_nil))) da_nil)))) da_nil)))))) dss_nil)
      (dss_one (ds_ret (de_tup (da_cons (dk_ex (de_n 1)) (da_cons (dk_ex (de_n 3)) da_nil))))))))))
/-! _law_view -/
def m__law_view : MS :=
  mSeq (mSet 3 (mCall D__law_take [.nm 0, .ex (mC (.int 4))]))
  (mSeq (mUnp (mN 1) (gT [gN 4, gN 5]))
  (mSeq (mIf (mB (mOp (oEq false) [.nm 3, .ex (mC (.int 3))])) (mRet (mOp (op1 toTup) [.ex (mComp (mIt itS (mN 2)) [9] (gN 9) (mYes) (mCall D__law_take [.nm 0, .ex (mOp oIx [.nm 4, .nm 9])]))])) (mPass))
  (mSeq (mSet 6 (mOp oSorted [.ex (mComp (mIt itS (mN 2)) [9] (gN 9) (mYes) (mOp oInt [.ex (mCall D__law_take [.nm 0, .ex (mOp oLen [.nm 5])])]))]))
  (mSeq (mSet 7 (mComp (mRg [.ex (mOp oLen [.nm 2])]) [10] (gN 10) (mYes) (mOp oIx [.ex (mOp oIx [.ex (mOp oIx [.nm 5, .ex (mOp oIx [.nm 6, .nm 10])]), .ex (mC (.int 0))]), .ex (mOp oIx [.nm 2, .nm 10])])))
  (mSeq (mIf (mB (mOp (oEq false) [.nm 3, .ex (mC (.int 2))])) (mSeq (mSet 8 (mCall D__law_take [.nm 0, .ex (mOp oLen [.nm 2])]))
  (mPut 7 (mOp oMod [.ex (mOp oInt [.ex (mOp oPlus [.ex (mOp oPlus [.ex (mOp oIx [.nm 7, .nm 8]), .ex (mC (.int 1))]), .ex (mCall D__law_take [.nm 0, .ex (mOp oSub [.ex (mOp oIx [.nm 4, .ex (mOp oIx [.nm 2, .nm 8])]), .ex (mC (.int 1))])])])]), .ex (mOp oIx [.nm 4, .ex (mOp oIx [.nm 2, .nm 8])])]) (.nm 8))) (mPass))
  (mRet (mOp (op1 toTup) [.nm 7])))))))
def D__law_view : List O → FR := fnD [0, 1, 2] 11 m__law_view
theorem sc__law_view : FnScope ["_law_draws_here", "_law_life_here", "_law_tour", "_law_kind", "_law_sizes", "_law_spots", "_law_moments_here", "_law_view_here", "_law_place", "_law_dial", "_law_k"] ["_law_draws_here", "_law_life_here", "_law_tour"] (defScope s__law_view) := ⟨rfl, rfl, rfl, by decide +kernel, rfl, by decide +kernel, by decide +kernel⟩
theorem ok__law_view {P : Program} {w : World} {K : PySem.W.Frag} {mg : Str → Option Value} {base : Heap} {ad : Nat → Addr} {fdn : Nat → FuncData} (T : Txt K mg ad fdn) : FnOk P w K mg base (L2N.CX P w) 2 (ad 32) (fdn 32) ["_law_draws_here", "_law_life_here", "_law_tour"] (FP K mg 3 D__law_view) := by
  refine ok_def [0, 1, 2] T.F__law_view sc__law_view fun cdv A outer s H E hr => ?_
  have nd := sc__law_view.nd
  have tk := L2N.takes_of (X := cxOf (L2N.CX P w) P w K mg base ["_law_draws_here", "_law_life_here", "_law_tour", "_law_kind", "_law_sizes", "_law_spots", "_law_moments_here", "_law_view_here", "_law_place", "_law_dial", "_law_k"] "_law_view" (defScope s__law_view) (ad 32) cdv A outer s H E) rfl rfl rfl rfl
  have po := passes_of (X := cxOf (L2N.CX P w) P w K mg base ["_law_draws_here", "_law_life_here", "_law_tour", "_law_kind", "_law_sizes", "_law_spots", "_law_moments_here", "_law_view_here", "_law_place", "_law_dial", "_law_k"] "_law_view" (defScope s__law_view) (ad 32) cdv A outer s H E) rfl
  exact (dss_cons (ds_set (i := 3) nd (de_call (ok__law_take T) (hr.mono (by decide)) T.m__law_take T.F__law_take.kp T.b__law_take tk (da_cons (dk_nm 0) (da_cons (dk_ex de_int) da_nil))))
      (dss_cons (ds_unp (de_n 1) (dg_t rfl (dgs_cons (dg_n (i := 4) nd) (dgs_cons (dg_n (i := 5) nd) dgs_nil))))
      (dss_cons (ds_if (dt_cmp (op_eqD hr.units) s_eq (dk_nm 3) (dk_ex de_int)) (dss_one (ds_ret (de_callTy call_tuple_of s_tuple T.b_tuple (da_cons (dk_ex (de_comp (own := [("_law_dial", 9)]) rfl nd (blkOk_by rfl) (by decide) (di_seq (de_n 2)) (fun _ => pg_name (i := 9) nd rfl (by first | exact Or.inl rfl | exact Or.inr rfl)) (gsnd_n (i := 9) (by decide)) (gw_n (i := 9) (by decide)) (fun _ => dts_nil) (fun _ => (de_call (ok__law_take T) (hr.mono (by decide)) T.m__law_take T.F__law_take.kp T.b__law_take takes0N (da_cons (dk_nm 0) (da_cons (dk_ex (de_ix ix_lt s_ix (dk_nm 4) (dk_nm 9))) da_nil)))))) da_nil)))) dss_nil)
      (dss_cons (ds_set (i := 6) nd (de_callB cr_sortedA s_sorted T.b_sorted (da_cons (dk_ex (de_comp (own := [("_law_dial", 9)]) rfl nd (blkOk_by rfl) (by decide) (di_seq (de_n 2)) (fun _ => pg_name (i := 9) nd rfl (by first | exact Or.inl rfl | exact Or.inr rfl)) (gsnd_n (i := 9) (by decide)) (gw_n (i := 9) (by decide)) (fun _ => dts_nil) (fun _ => (de_callTy call_int1 s_int T.b_int (da_cons (dk_ex (de_call (ok__law_take T) (hr.mono (by decide)) T.m__law_take T.F__law_take.kp T.b__law_take takes0N (da_cons (dk_nm 0) (da_cons (dk_ex (de_callB call_len_seq s_len T.b_len (da_cons (dk_nm 5) da_nil))) da_nil)))) da_nil))))) da_nil)))
      (dss_cons (ds_comp (i := 7) (own := [("_law_k", 10)]) rfl nd (blkOk_by rfl) (by decide) (di_range1 T.b_range (da_cons (dk_ex (de_callB call_len_seq s_len T.b_len (da_cons (dk_nm 2) da_nil))) da_nil)) (fun _ => pg_name (i := 10) nd rfl (by first | exact Or.inl rfl | exact Or.inr rfl)) (gsnd_n (i := 10) (by decide)) (gw_n (i := 10) (by decide)) (fun _ => dts_nil) (fun _ => (de_ix ix_lt s_ix (dk_ex (de_ix ix_lt s_ix (dk_ex (de_ix ix_lt s_ix (dk_nm 5) (dk_ex (de_ix ix_lt s_ix (dk_nm 6) (dk_nm 10))))) (dk_ex de_int))) (dk_ex (de_ix ix_lt s_ix (dk_nm 2) (dk_nm 10))))) (sw_true rfl rfl rfl (by decide +kernel)))
      (dss_cons (ds_if (dt_cmp (op_eqD hr.units) s_eq (dk_nm 3) (dk_ex de_int)) (dss_cons (ds_set (i := 8) nd (de_call (ok__law_take T) (hr.mono (by decide)) T.m__law_take T.F__law_take.kp T.b__law_take tk (da_cons (dk_nm 0) (da_cons (dk_ex (de_callB call_len_seq s_len T.b_len (da_cons (dk_nm 2) da_nil))) da_nil))))
      (dss_one (ds_put (i := 7) (de_bin op_modN s_mod (dk_ex (de_callTy call_int1 s_int T.b_int (da_cons (dk_ex (de_bin op_plus s_plus (dk_ex (de_bin op_plus s_plus (dk_ex (de_ix ix_lt s_ix (dk_nm 7) (dk_nm 8))) (dk_ex de_int))) (dk_ex (de_call (ok__law_take T) (hr.mono (by decide)) T.m__law_take T.F__law_take.kp T.b__law_take tk (da_cons (dk_nm 0) (da_cons (dk_ex (de_bin op_sub s_sub (dk_ex (de_ix ix_lt s_ix (dk_nm 4) (dk_ex (de_ix ix_lt s_ix (dk_nm 2) (dk_nm 8))))) (dk_ex de_int))) da_nil)))))) da_nil))) (dk_ex (de_ix ix_lt s_ix (dk_nm 4) (dk_ex (de_ix ix_lt s_ix (dk_nm 2) (dk_nm 8)))))) (dk_nm 8)))) dss_nil)
      (dss_one (ds_ret (de_callTy call_tuple_of s_tuple T.b_tuple (da_cons (dk_nm 7) da_nil))))))))))
/-! _law_fronts -/
def m__law_fronts : MS :=
  mSeq (mSet 5 (mComp (mRg [.nm 3, .nm 4]) [11] (gN 11) (mYes) (mC (.bl true))))
  (mSeq (mSet 6 (mAll oLst []))
  (mSeq (mFor (mRg [.ex (mOp oLen [.nm 1])]) (gN 7) (mSeq (mSet 8 (mC (.bl false)))
  (mSeq (mSet 9 (mAll oLst []))
  (mSeq (mFor (mRg [.ex (mOp oSub [.nm 4, .nm 3])]) (gN 10) (mSeq (mSet 8 (mOr (mN 8) (mOp oIx [.nm 5, .nm 10])))
  (mExpr (mMut 9 fApp [.ex (mAnd (mN 8) (mOp (oEq false) [.ex (mOp oIx [.ex (mOp oIx [.ex (mOp oIx [.ex (mOp oIx [.nm 0, .ex (mC (.int 1))]), .ex (mOp oPlus [.nm 3, .nm 10])]), .ex (mC (.int 0))]), .ex (mOp oIx [.nm 1, .nm 7])]), .ex (mOp oIx [.nm 2, .nm 7])]))]))))
  (mSeq (mSet 5 (mN 9))
  (mSeq (mIf (mB (mOp (oIn true) [.ex (mC (.bl true)), .nm 5])) (mRet (mMv 6)) (mPass))
  (mExpr (mMut 6 fApp [.ex (mOp oPlus [.nm 3, .ex (mAlt (mLook oIndex (.nm 5) [.ex (mC (.bl true))]) (mAlt (mLookT oTIdx (.nm 5) [.ex (mC (.bl true))]) (mLook oIndexD (.nm 5) [.ex (mC (.bl true))])))])]))))))))
  (mRet (mMv 6))))
def D__law_fronts : List O → FR := fnD [0, 1, 2, 3, 4] 12 m__law_fronts
theorem sc__law_fronts : FnScope ["_law_life_here", "_law_tour", "_law_view_here", "_law_low", "_law_high", "_law_can", "_law_least", "_law_k", "_law_come", "_law_made", "_law_place", "_law_spot"] ["_law_life_here", "_law_tour", "_law_view_here", "_law_low", "_law_high"] (defScope s__law_fronts) := ⟨rfl, rfl, rfl, by decide +kernel, rfl, by decide +kernel, by decide +kernel⟩
theorem ok__law_fronts {P : Program} {w : World} {K : PySem.W.Frag} {mg : Str → Option Value} {base : Heap} {ad : Nat → Addr} {fdn : Nat → FuncData} (T : Txt K mg ad fdn) : FnOk P w K mg base (L2N.CX P w) 1 (ad 33) (fdn 33) ["_law_life_here", "_law_tour", "_law_view_here", "_law_low", "_law_high"] (FP K mg 5 D__law_fronts) := by
  refine ok_def [0, 1, 2, 3, 4] T.F__law_fronts sc__law_fronts fun cdv A outer s H E hr => ?_
  have nd := sc__law_fronts.nd
  have tk := L2N.takes_of (X := cxOf (L2N.CX P w) P w K mg base ["_law_life_here", "_law_tour", "_law_view_here", "_law_low", "_law_high", "_law_can", "_law_least", "_law_k", "_law_come", "_law_made", "_law_place", "_law_spot"] "_law_fronts" (defScope s__law_fronts) (ad 33) cdv A outer s H E) rfl rfl rfl rfl
  have po := passes_of (X := cxOf (L2N.CX P w) P w K mg base ["_law_life_here", "_law_tour", "_law_view_here", "_law_low", "_law_high", "_law_can", "_law_least", "_law_k", "_law_come", "_law_made", "_law_place", "_law_spot"] "_law_fronts" (defScope s__law_fronts) (ad 33) cdv A outer s H E) rfl
  exact (dss_cons (ds_comp (i := 5) (own := [("_law_spot", 11)]) rfl nd (blkOk_by rfl) (by decide) (di_range2 T.b_range (da_cons (dk_nm 3) (da_cons (dk_nm 4) da_nil))) (fun _ => pg_name (i := 11) nd rfl (by first | exact Or.inl rfl | exact Or.inr rfl)) (gsnd_n (i := 11) (by decide)) (gw_n (i := 11) (by decide)) (fun _ => dts_nil) (fun _ => de_bl) (sw_true rfl rfl rfl (by decide +kernel)))
      (dss_cons (ds_set (i := 6) nd (de_lst da_nil))
      (dss_cons (ds_for po rfl (di_range1 T.b_range (da_cons (dk_ex (de_callB call_len_seq s_len T.b_len (da_cons (dk_nm 1) da_nil))) da_nil)) (dg_n (i := 7) nd) (dss_cons (ds_set (i := 8) nd de_bl)
      (dss_cons (ds_set (i := 9) nd (de_lst da_nil))
      (dss_cons (ds_for po rfl (di_range1 T.b_range (da_cons (dk_ex (de_bin op_sub s_sub (dk_nm 4) (dk_nm 3))) da_nil)) (dg_n (i := 10) nd) (dss_cons (ds_set (i := 8) nd (de_or (de_n 8) (de_one (de_ix ix_lt s_ix (dk_nm 5) (dk_nm 10)))))
      (dss_one (ds_expr (de_mut (i := 9) PySem.F.plainAttrs_list PySem.F.slot_list_append PySem.F.type_list_append mt_append s_app (da_cons (dk_ex (de_and (de_n 8) (de_one (de_cmp (op_eqD hr.units) s_eq (dk_ex (de_ix ix_lt s_ix (dk_ex (de_ix ix_lt s_ix (dk_ex (de_ix ix_lt s_ix (dk_ex (de_ix ix_lt s_ix (dk_nm 0) (dk_ex de_int))) (dk_ex (de_bin op_plus s_plus (dk_nm 3) (dk_nm 10))))) (dk_ex de_int))) (dk_ex (de_ix ix_lt s_ix (dk_nm 1) (dk_nm 7))))) (dk_ex (de_ix ix_lt s_ix (dk_nm 2) (dk_nm 7))))))) da_nil))))))
      (dss_cons (ds_set (i := 5) nd (de_n 9))
      (dss_cons (ds_if (dt_cmp (op_ninA hr.units65) (s_in true) (dk_ex de_bl) (dk_nm 5)) (dss_one (ds_ret (de_mv 6))) dss_nil)
      (dss_one (ds_expr (de_mut (i := 6) PySem.F.plainAttrs_list PySem.F.slot_list_append PySem.F.type_list_append mt_append s_app (da_cons (dk_ex (de_bin op_plus s_plus (dk_nm 3) (dk_ex (de_alt (de_look PySem.F.plainAttrs_list PySem.F.slot_list_index PySem.F.type_list_index mt_index lk_list s_index (dk_nm 5) (da_cons (dk_ex de_bl) da_nil)) (de_alt (de_look PySem.F.plainAttrs_tuple PySem.F.slot_tuple_index PySem.F.type_tuple_index mt_tidx lk_tup s_tidx (dk_nm 5) (da_cons (dk_ex de_bl) da_nil)) (de_look PySem.F.plainAttrs_list PySem.F.slot_list_index PySem.F.type_list_index (mt_indexD hr.units65) lk_list s_indexD (dk_nm 5) (da_cons (dk_ex de_bl) da_nil))))))) da_nil))))))))))
      (dss_one (ds_ret (de_mv 6))))))
/-! _law_turned -/
def m__law_turned : MS :=
  mSeq (mSet 3 (mAll oTup [.ex (mOp oIx [.nm 0, .ex (mC (.int 0))]), .ex (mOp (op1 toRv) [.ex (mOp oIx [.nm 0, .ex (mC (.int 1))])])]))
  (mSeq (mSet 4 (mCall D__law_fronts [.nm 3, .ex (mOp (op1 toRv) [.nm 1]), .ex (mOp (op1 toRv) [.nm 2]), .ex (mC (.int 0)), .ex (mOp oLen [.ex (mOp oIx [.nm 0, .ex (mC (.int 1))])])]))
  (mRet (mComp (mIt itS (mN 4)) [5] (gN 5) (mYes) (mOp oSub [.ex (mOp oSub [.ex (mOp oLen [.ex (mOp oIx [.nm 0, .ex (mC (.int 1))])]), .ex (mC (.int 1))]), .nm 5]))))
def D__law_turned : List O → FR := fnD [0, 1, 2] 6 m__law_turned
theorem sc__law_turned : FnScope ["_law_life_here", "_law_tour", "_law_view_here", "_law_turned_here", "_law_found", "_law_moment"] ["_law_life_here", "_law_tour", "_law_view_here"] (defScope s__law_turned) := ⟨rfl, rfl, rfl, by decide +kernel, rfl, by decide +kernel, by decide +kernel⟩
theorem ok__law_turned {P : Program} {w : World} {K : PySem.W.Frag} {mg : Str → Option Value} {base : Heap} {ad : Nat → Addr} {fdn : Nat → FuncData} (T : Txt K mg ad fdn) : FnOk P w K mg base (L2N.CX P w) 2 (ad 34) (fdn 34) ["_law_life_here", "_law_tour", "_law_view_here"] (FP K mg 3 D__law_turned) := by
  refine ok_def [0, 1, 2] T.F__law_turned sc__law_turned fun cdv A outer s H E hr => ?_
  have nd := sc__law_turned.nd
  have tk := L2N.takes_of (X := cxOf (L2N.CX P w) P w K mg base ["_law_life_here", "_law_tour", "_law_view_here", "_law_turned_here", "_law_found", "_law_moment"] "_law_turned" (defScope s__law_turned) (ad 34) cdv A outer s H E) rfl rfl rfl rfl
  have po := passes_of (X := cxOf (L2N.CX P w) P w K mg base ["_law_life_here", "_law_tour", "_law_view_here", "_law_turned_here", "_law_found", "_law_moment"] "_law_turned" (defScope s__law_turned) (ad 34) cdv A outer s H E) rfl
  exact (dss_cons (ds_set (i := 3) nd (de_tup (da_cons (dk_ex (de_ix ix_lt s_ix (dk_nm 0) (dk_ex de_int))) (da_cons (dk_ex (de_rv (dk_ex (de_ix ix_lt s_ix (dk_nm 0) (dk_ex de_int))))) da_nil))))
      (dss_cons (ds_set (i := 4) nd (de_call (ok__law_fronts T) (hr.mono (by decide)) T.m__law_fronts T.F__law_fronts.kp T.b__law_fronts tk (da_cons (dk_nm 3) (da_cons (dk_ex (de_rv (dk_nm 1))) (da_cons (dk_ex (de_rv (dk_nm 2))) (da_cons (dk_ex de_int) (da_cons (dk_ex (de_callB call_len_seq s_len T.b_len (da_cons (dk_ex (de_ix ix_lt s_ix (dk_nm 0) (dk_ex de_int))) da_nil))) da_nil)))))))
      (dss_one (ds_ret (de_comp (own := [("_law_moment", 5)]) rfl nd (blkOk_by rfl) (by decide) (di_seq (de_n 4)) (fun _ => pg_name (i := 5) nd rfl (by first | exact Or.inl rfl | exact Or.inr rfl)) (gsnd_n (i := 5) (by decide)) (gw_n (i := 5) (by decide)) (fun _ => dts_nil) (fun _ => (de_bin op_sub s_sub (dk_ex (de_bin op_sub s_sub (dk_ex (de_callB call_len_seq s_len T.b_len (da_cons (dk_ex (de_ix ix_lt s_ix (dk_nm 0) (dk_ex de_int))) da_nil))) (dk_ex de_int))) (dk_nm 5))))))))
/-! _law_early -/
def m__law_early : MS :=
  mSeq (mSet 3 (mCall D__law_fronts [.nm 0, .nm 1, .nm 2, .ex (mC (.int 0)), .ex (mOp oLen [.ex (mOp oIx [.nm 0, .ex (mC (.int 1))])])]))
  (mSeq (mIf (mB (mOp oLt [.ex (mOp oLen [.nm 3]), .ex (mOp oLen [.nm 1])])) (mRet (mAll oLst [.ex (mC (.str "unseen")), .ex (mOp oLen [.nm 3])])) (mPass))
  (mRet (mOp (op1 toTup) [.nm 3])))
def D__law_early : List O → FR := fnD [0, 1, 2] 4 m__law_early
theorem sc__law_early : FnScope ["_law_life_here", "_law_tour", "_law_view_here", "_law_found"] ["_law_life_here", "_law_tour", "_law_view_here"] (defScope s__law_early) := ⟨rfl, rfl, rfl, by decide +kernel, rfl, by decide +kernel, by decide +kernel⟩
theorem ok__law_early {P : Program} {w : World} {K : PySem.W.Frag} {mg : Str → Option Value} {base : Heap} {ad : Nat → Addr} {fdn : Nat → FuncData} (T : Txt K mg ad fdn) : FnOk P w K mg base (L2N.CX P w) 2 (ad 35) (fdn 35) ["_law_life_here", "_law_tour", "_law_view_here"] (FP K mg 3 D__law_early) := by
  refine ok_def [0, 1, 2] T.F__law_early sc__law_early fun cdv A outer s H E hr => ?_
  have nd := sc__law_early.nd
  have tk := L2N.takes_of (X := cxOf (L2N.CX P w) P w K mg base ["_law_life_here", "_law_tour", "_law_view_here", "_law_found"] "_law_early" (defScope s__law_early) (ad 35) cdv A outer s H E) rfl rfl rfl rfl
  have po := passes_of (X := cxOf (L2N.CX P w) P w K mg base ["_law_life_here", "_law_tour", "_law_view_here", "_law_found"] "_law_early" (defScope s__law_early) (ad 35) cdv A outer s H E) rfl
  exact (dss_cons (ds_set (i := 3) nd (de_call (ok__law_fronts T) (hr.mono (by decide)) T.m__law_fronts T.F__law_fronts.kp T.b__law_fronts tk (da_cons (dk_nm 0) (da_cons (dk_nm 1) (da_cons (dk_nm 2) (da_cons (dk_ex de_int) (da_cons (dk_ex (de_callB call_len_seq s_len T.b_len (da_cons (dk_ex (de_ix ix_lt s_ix (dk_nm 0) (dk_ex de_int))) da_nil))) da_nil)))))))
      (dss_cons (ds_if (dt_cmp op_lt s_lt (dk_ex (de_callB call_len_seq s_len T.b_len (da_cons (dk_nm 3) da_nil))) (dk_ex (de_callB call_len_seq s_len T.b_len (da_cons (dk_nm 1) da_nil)))) (dss_one (ds_ret (de_lst (da_cons (dk_ex de_str) (da_cons (dk_ex (de_callB call_len_seq s_len T.b_len (da_cons (dk_nm 3) da_nil))) da_nil))))) dss_nil)
      (dss_one (ds_ret (de_callTy call_tuple_of s_tuple T.b_tuple (da_cons (dk_nm 3) da_nil))))))
/-! _law_late -/
def m__law_late : MS :=
  mSeq (mSet 3 (mCall D__law_turned [.nm 0, .nm 1, .nm 2]))
  (mSeq (mIf (mB (mOp oLt [.ex (mOp oLen [.nm 3]), .ex (mOp oLen [.nm 1])])) (mRet (mAll oLst [.ex (mC (.str "unseen")), .ex (mOp oSub [.ex (mOp oSub [.ex (mOp oLen [.nm 1]), .ex (mC (.int 1))]), .ex (mOp oLen [.nm 3])])])) (mPass))
  (mRet (mOp (op1 toTup) [.ex (mOp (op1 toRv) [.nm 3])])))
def D__law_late : List O → FR := fnD [0, 1, 2] 4 m__law_late
theorem sc__law_late : FnScope ["_law_life_here", "_law_tour", "_law_view_here", "_law_found"] ["_law_life_here", "_law_tour", "_law_view_here"] (defScope s__law_late) := ⟨rfl, rfl, rfl, by decide +kernel, rfl, by decide +kernel, by decide +kernel⟩
theorem ok__law_late {P : Program} {w : World} {K : PySem.W.Frag} {mg : Str → Option Value} {base : Heap} {ad : Nat → Addr} {fdn : Nat → FuncData} (T : Txt K mg ad fdn) : FnOk P w K mg base (L2N.CX P w) 3 (ad 36) (fdn 36) ["_law_life_here", "_law_tour", "_law_view_here"] (FP K mg 3 D__law_late) := by
  refine ok_def [0, 1, 2] T.F__law_late sc__law_late fun cdv A outer s H E hr => ?_
  have nd := sc__law_late.nd
  have tk := L2N.takes_of (X := cxOf (L2N.CX P w) P w K mg base ["_law_life_here", "_law_tour", "_law_view_here", "_law_found"] "_law_late" (defScope s__law_late) (ad 36) cdv A outer s H E) rfl rfl rfl rfl
  have po := passes_of (X := cxOf (L2N.CX P w) P w K mg base ["_law_life_here", "_law_tour", "_law_view_here", "_law_found"] "_law_late" (defScope s__law_late) (ad 36) cdv A outer s H E) rfl
  exact (dss_cons (ds_set (i := 3) nd (de_call (ok__law_turned T) (hr.mono (by decide)) T.m__law_turned T.F__law_turned.kp T.b__law_turned tk (da_cons (dk_nm 0) (da_cons (dk_nm 1) (da_cons (dk_nm 2) da_nil)))))
      (dss_cons (ds_if (dt_cmp op_lt s_lt (dk_ex (de_callB call_len_seq s_len T.b_len (da_cons (dk_nm 3) da_nil))) (dk_ex (de_callB call_len_seq s_len T.b_len (da_cons (dk_nm 1) da_nil)))) (dss_one (ds_ret (de_lst (da_cons (dk_ex de_str) (da_cons (dk_ex (de_bin op_sub s_sub (dk_ex (de_bin op_sub s_sub (dk_ex (de_callB call_len_seq s_len T.b_len (da_cons (dk_nm 1) da_nil))) (dk_ex de_int))) (dk_ex (de_callB call_len_seq s_len T.b_len (da_cons (dk_nm 3) da_nil))))) da_nil))))) dss_nil)
      (dss_one (ds_ret (de_callTy call_tuple_of s_tuple T.b_tuple (da_cons (dk_ex (de_rv (dk_nm 3))) da_nil))))))
/-! _law_span -/
def m__law_span : MS :=
  mSeq (mSet 3 (mCall D__law_early [.nm 0, .nm 1, .nm 2]))
  (mSeq (mIf (mB (mOp (oIsi "list") [.nm 3])) (mRet (mMv 3)) (mPass))
  (mSeq (mSet 4 (mOp oIx [.nm 0, .ex (mC (.int 1))]))
  (mSeq (mSet 5 (mAll oLst []))
  (mSeq (mFor (mRg [.ex (mOp oPlus [.ex (mOp oIx [.ex (mOp oIx [.nm 4, .ex (mOp oNeg [.ex (mC (.int 1))])]), .ex (mC (.int 1))]), .ex (mC (.int 1))])]) (gN 6) (mSeq (mSet 7 (mOp oLen [.ex (mComp (mIt itS (mN 4)) [11] (gN 11) (mB (mOp oLt [.ex (mOp oIx [.nm 11, .ex (mC (.int 1))]), .nm 6])) (mN 11))]))
  (mSeq (mSet 8 (mOp oLen [.ex (mComp (mIt itS (mN 4)) [11] (gN 11) (mB (mOp oLe [.ex (mOp oIx [.nm 11, .ex (mC (.int 1))]), .nm 6])) (mN 11))]))
  (mSeq (mSet 9 (mCall D__law_fronts [.nm 0, .nm 1, .nm 2, .ex (mC (.int 0)), .nm 7]))
  (mSeq (mSet 10 (mCall D__law_fronts [.nm 0, .nm 1, .nm 2, .nm 8, .ex (mOp oLen [.nm 4])]))
  (mIf (mTAnd (mB (mOp oLt [.ex (mOp oLen [.nm 9]), .ex (mOp oLen [.nm 1])])) (mB (mOp oLt [.ex (mOp oLen [.nm 10]), .ex (mOp oLen [.nm 1])]))) (mExpr (mMut 5 fApp [.ex (mN 6)])) (mPass)))))))
  (mSeq (mIf (mB (mOp (oEq false) [.ex (mOp oLen [.nm 5]), .ex (mC (.int 0))])) (mRet (mC .non)) (mPass))
  (mRet (mAll oTup [.ex (mOp oIx [.nm 5, .ex (mC (.int 0))]), .ex (mOp oIx [.nm 5, .ex (mOp oNeg [.ex (mC (.int 1))])])])))))))
def D__law_span : List O → FR := fnD [0, 1, 2] 12 m__law_span
theorem sc__law_span : FnScope ["_law_life_here", "_law_tour", "_law_view_here", "_law_early_here", "_law_spots", "_law_right", "_law_stage", "_law_first", "_law_last", "_law_ahead", "_law_behind", "_law_spot"] ["_law_life_here", "_law_tour", "_law_view_here"] (defScope s__law_span) := ⟨rfl, rfl, rfl, by decide +kernel, rfl, by decide +kernel, by decide +kernel⟩
theorem ok__law_span {P : Program} {w : World} {K : PySem.W.Frag} {mg : Str → Option Value} {base : Heap} {ad : Nat → Addr} {fdn : Nat → FuncData} (T : Txt K mg ad fdn) : FnOk P w K mg base (L2N.CX P w) 3 (ad 37) (fdn 37) ["_law_life_here", "_law_tour", "_law_view_here"] (FP K mg 3 D__law_span) := by
  refine ok_def [0, 1, 2] T.F__law_span sc__law_span fun cdv A outer s H E hr => ?_
  have nd := sc__law_span.nd
  have tk := L2N.takes_of (X := cxOf (L2N.CX P w) P w K mg base ["_law_life_here", "_law_tour", "_law_view_here", "_law_early_here", "_law_spots", "_law_right", "_law_stage", "_law_first", "_law_last", "_law_ahead", "_law_behind", "_law_spot"] "_law_span" (defScope s__law_span) (ad 37) cdv A outer s H E) rfl rfl rfl rfl
  have po := passes_of (X := cxOf (L2N.CX P w) P w K mg base ["_law_life_here", "_law_tour", "_law_view_here", "_law_early_here", "_law_spots", "_law_right", "_law_stage", "_law_first", "_law_last", "_law_ahead", "_law_behind", "_law_spot"] "_law_span" (defScope s__law_span) (ad 37) cdv A outer s H E) rfl
  exact (dss_cons (ds_set (i := 3) nd (de_call (ok__law_early T) (hr.mono (by decide)) T.m__law_early T.F__law_early.kp T.b__law_early tk (da_cons (dk_nm 0) (da_cons (dk_nm 1) (da_cons (dk_nm 2) da_nil)))))
      (dss_cons (ds_if (dt_val (de_isi (T := "list") T.b_isinstance T.b_list (dk_nm 3))) (dss_one (ds_ret (de_mv 3))) dss_nil)
      (dss_cons (ds_set (i := 4) nd (de_ix ix_lt s_ix (dk_nm 0) (dk_ex de_int)))
      (dss_cons (ds_set (i := 5) nd (de_lst da_nil))
      (dss_cons (ds_for po rfl (di_range1 T.b_range (da_cons (dk_ex (de_bin op_plus s_plus (dk_ex (de_ix ix_lt s_ix (dk_ex (de_ix ix_lt s_ix (dk_nm 4) (dk_ex (de_un un_neg s_neg (dk_ex de_int))))) (dk_ex de_int))) (dk_ex de_int))) da_nil)) (dg_n (i := 6) nd) (dss_cons (ds_set (i := 7) nd (de_callB call_len_seq s_len T.b_len (da_cons (dk_ex (de_comp (own := [("_law_spot", 11)]) rfl nd (blkOk_by rfl) (by decide) (di_seq (de_n 4)) (fun _ => pg_name (i := 11) nd rfl (by first | exact Or.inl rfl | exact Or.inr rfl)) (gsnd_n (i := 11) (by decide)) (gw_n (i := 11) (by decide)) (fun _ => (dts_one (dt_cmp op_lt s_lt (dk_ex (de_ix ix_lt s_ix (dk_nm 11) (dk_ex de_int))) (dk_nm 6)))) (fun _ => (de_n 11)))) da_nil)))
      (dss_cons (ds_set (i := 8) nd (de_callB call_len_seq s_len T.b_len (da_cons (dk_ex (de_comp (own := [("_law_spot", 11)]) rfl nd (blkOk_by rfl) (by decide) (di_seq (de_n 4)) (fun _ => pg_name (i := 11) nd rfl (by first | exact Or.inl rfl | exact Or.inr rfl)) (gsnd_n (i := 11) (by decide)) (gw_n (i := 11) (by decide)) (fun _ => (dts_one (dt_cmp op_le s_le (dk_ex (de_ix ix_lt s_ix (dk_nm 11) (dk_ex de_int))) (dk_nm 6)))) (fun _ => (de_n 11)))) da_nil)))
      (dss_cons (ds_set (i := 9) nd (de_call (ok__law_fronts T) (hr.mono (by decide)) T.m__law_fronts T.F__law_fronts.kp T.b__law_fronts tk (da_cons (dk_nm 0) (da_cons (dk_nm 1) (da_cons (dk_nm 2) (da_cons (dk_ex de_int) (da_cons (dk_nm 7) da_nil)))))))
      (dss_cons (ds_set (i := 10) nd (de_call (ok__law_fronts T) (hr.mono (by decide)) T.m__law_fronts T.F__law_fronts.kp T.b__law_fronts tk (da_cons (dk_nm 0) (da_cons (dk_nm 1) (da_cons (dk_nm 2) (da_cons (dk_nm 8) (da_cons (dk_ex (de_callB call_len_seq s_len T.b_len (da_cons (dk_nm 4) da_nil))) da_nil)))))))
      (dss_one (ds_if (dt_w (dw_and (dt_cmp op_lt s_lt (dk_ex (de_callB call_len_seq s_len T.b_len (da_cons (dk_nm 9) da_nil))) (dk_ex (de_callB call_len_seq s_len T.b_len (da_cons (dk_nm 1) da_nil)))) (dw_and1 (dt_cmp op_lt s_lt (dk_ex (de_callB call_len_seq s_len T.b_len (da_cons (dk_nm 10) da_nil))) (dk_ex (de_callB call_len_seq s_len T.b_len (da_cons (dk_nm 1) da_nil))))))) (dss_one (ds_expr (de_mut (i := 5) PySem.F.plainAttrs_list PySem.F.slot_list_append PySem.F.type_list_append mt_append s_app (da_cons (dk_ex (de_n 6)) da_nil)))) dss_nil)))))))
      (dss_cons (ds_if (dt_cmp (op_eqD hr.units) s_eq (dk_ex (de_callB call_len_seq s_len T.b_len (da_cons (dk_nm 5) da_nil))) (dk_ex de_int)) (dss_one (ds_ret de_non)) dss_nil)
      (dss_one (ds_ret (de_tup (da_cons (dk_ex (de_ix ix_lt s_ix (dk_nm 5) (dk_ex de_int))) (da_cons (dk_ex (de_ix ix_lt s_ix (dk_nm 5) (dk_ex (de_un un_neg s_neg (dk_ex de_int))))) da_nil)))))))))))
/-! _law_moments -/
def m__law_moments : MS :=
  mSeq (mIf (mTOr (mTNot (mB (mOp (oIsi "tuple") [.nm 2]))) (mB (mOp (oEq true) [.ex (mOp oLen [.nm 2]), .ex (mOp oLen [.nm 1])]))) (mRet (mC (.bl false))) (mPass))
  (mSeq (mFor (mIt itS (mN 2)) (gN 3) (mIf (mTOr (mTNot (mB (mOp (oIsi "int") [.nm 3]))) (mTOr (mB (mOp (oIsi "bool") [.nm 3])) (mTNot (mB (mAnd (mOp oLe [.ex (mC (.int 0)), .nm 3]) (mOp oLt [.nm 3, .ex (mOp oLen [.ex (mOp oIx [.nm 0, .ex (mC (.int 1))])])])))))) (mRet (mC (.bl false))) (mPass)))
  (mRet (mC (.bl true))))
def D__law_moments : List O → FR := fnD [0, 1, 2] 4 m__law_moments
theorem sc__law_moments : FnScope ["_law_life_here", "_law_tour", "_law_thing_here", "_law_moment"] ["_law_life_here", "_law_tour", "_law_thing_here"] (defScope s__law_moments) := ⟨rfl, rfl, rfl, by decide +kernel, rfl, by decide +kernel, by decide +kernel⟩
theorem ok__law_moments {P : Program} {w : World} {K : PySem.W.Frag} {mg : Str → Option Value} {base : Heap} {ad : Nat → Addr} {fdn : Nat → FuncData} (T : Txt K mg ad fdn) : FnOk P w K mg base (L2N.CX P w) 1 (ad 38) (fdn 38) ["_law_life_here", "_law_tour", "_law_thing_here"] (FP K mg 3 D__law_moments) := by
  refine ok_def [0, 1, 2] T.F__law_moments sc__law_moments fun cdv A outer s H E hr => ?_
  have nd := sc__law_moments.nd
  have tk := L2N.takes_of (X := cxOf (L2N.CX P w) P w K mg base ["_law_life_here", "_law_tour", "_law_thing_here", "_law_moment"] "_law_moments" (defScope s__law_moments) (ad 38) cdv A outer s H E) rfl rfl rfl rfl
  have po := passes_of (X := cxOf (L2N.CX P w) P w K mg base ["_law_life_here", "_law_tour", "_law_thing_here", "_law_moment"] "_law_moments" (defScope s__law_moments) (ad 38) cdv A outer s H E) rfl
  exact (dss_cons (ds_if (dt_w (dw_or (dt_not (dt_val (de_isi (T := "tuple") T.b_isinstance T.b_tuple (dk_nm 2)))) (dw_or1 (dt_cmp (op_neD hr.units) s_ne (dk_ex (de_callB call_len_seq s_len T.b_len (da_cons (dk_nm 2) da_nil))) (dk_ex (de_callB call_len_seq s_len T.b_len (da_cons (dk_nm 1) da_nil))))))) (dss_one (ds_ret de_bl)) dss_nil)
      (dss_cons (ds_for po rfl (di_seq (de_n 2)) (dg_n (i := 3) nd) (dss_one (ds_if (dt_w (dw_or (dt_not (dt_val (de_isi (T := "int") T.b_isinstance T.b_int (dk_nm 3)))) (dw_or (dt_val (de_isi (T := "bool") T.b_isinstance T.b_bool (dk_nm 3))) (dw_or1 (dt_not (dt_chain 3 op_le s_le op_lt s_lt (dk_ex de_int) (dk_ex (de_callB call_len_seq s_len T.b_len (da_cons (dk_ex (de_ix ix_lt s_ix (dk_nm 0) (dk_ex de_int))) da_nil))))))))) (dss_one (ds_ret de_bl)) dss_nil)))
      (dss_one (ds_ret de_bl))))
/-! _law_paper -/
def m__law_paper : MS :=
  mSeq (mIf (mTOr (mTNot (mB (mOp (oIsi "tuple") [.nm 3]))) (mB (mOp (oEq true) [.ex (mOp oLen [.nm 3]), .ex (mC (.int 2))]))) (mRet (mAll oLst [.ex (mC (.str "paper")), .ex (mC (.str "shape")), .ex (mOp oNeg [.ex (mC (.int 1))])])) (mPass))
  (mSeq (mIf (mTNot (mB (mCall D__law_moments [.nm 0, .nm 1, .ex (mOp oIx [.nm 3, .ex (mC (.int 0))])]))) (mRet (mAll oLst [.ex (mC (.str "paper")), .ex (mC (.str "early")), .ex (mOp oNeg [.ex (mC (.int 1))])])) (mPass))
  (mSeq (mSet 4 (mCall D__law_fronts [.nm 0, .nm 1, .nm 2, .ex (mC (.int 0)), .ex (mOp oLen [.ex (mOp oIx [.nm 0, .ex (mC (.int 1))])])]))
  (mSeq (mFor (mRg [.ex (mOp oLen [.nm 1])]) (gN 5) (mIf (mTOr (mB (mOp oGe [.nm 5, .ex (mOp oLen [.nm 4])])) (mB (mOp (oEq true) [.ex (mOp oIx [.ex (mOp oIx [.nm 3, .ex (mC (.int 0))]), .nm 5]), .ex (mOp oIx [.nm 4, .nm 5])]))) (mRet (mAll oLst [.ex (mC (.str "paper")), .ex (mC (.str "early")), .ex (mMv 5)])) (mPass)))
  (mSeq (mIf (mTNot (mB (mCall D__law_moments [.nm 0, .nm 1, .ex (mOp oIx [.nm 3, .ex (mC (.int 1))])]))) (mRet (mAll oLst [.ex (mC (.str "paper")), .ex (mC (.str "late")), .ex (mOp oNeg [.ex (mC (.int 1))])])) (mPass))
  (mSeq (mSet 4 (mCall D__law_turned [.nm 0, .nm 1, .nm 2]))
  (mSeq (mFor (mRvRg (mOp oLen [.nm 1])) (gN 5) (mIf (mB (mOp (oEq true) [.ex (mOp oIx [.ex (mOp oIx [.nm 3, .ex (mC (.int 1))]), .nm 5]), .ex (mOp oIx [.nm 4, .ex (mOp oSub [.ex (mOp oSub [.ex (mOp oLen [.nm 1]), .ex (mC (.int 1))]), .nm 5])])])) (mRet (mAll oLst [.ex (mC (.str "paper")), .ex (mC (.str "late")), .ex (mMv 5)])) (mPass)))
  (mRet (mAll oTup [.ex (mOp oIx [.ex (mOp oIx [.ex (mOp oIx [.nm 0, .ex (mC (.int 1))]), .ex (mOp oIx [.ex (mOp oIx [.nm 3, .ex (mC (.int 1))]), .ex (mC (.int 0))])]), .ex (mC (.int 1))]), .ex (mOp oIx [.ex (mOp oIx [.ex (mOp oIx [.nm 0, .ex (mC (.int 1))]), .ex (mOp oIx [.ex (mOp oIx [.nm 3, .ex (mC (.int 0))]), .ex (mOp oNeg [.ex (mC (.int 1))])])]), .ex (mC (.int 1))])]))))))))
def D__law_paper : List O → FR := fnD [0, 1, 2, 3] 6 m__law_paper
theorem sc__law_paper : FnScope ["_law_life_here", "_law_tour", "_law_view_here", "_law_thing_here", "_law_found", "_law_k"] ["_law_life_here", "_law_tour", "_law_view_here", "_law_thing_here"] (defScope s__law_paper) := ⟨rfl, rfl, rfl, by decide +kernel, rfl, by decide +kernel, by decide +kernel⟩
theorem ok__law_paper {P : Program} {w : World} {K : PySem.W.Frag} {mg : Str → Option Value} {base : Heap} {ad : Nat → Addr} {fdn : Nat → FuncData} (T : Txt K mg ad fdn) : FnOk P w K mg base (L2N.CX P w) 3 (ad 39) (fdn 39) ["_law_life_here", "_law_tour", "_law_view_here", "_law_thing_here"] (FP K mg 4 D__law_paper) := by
  refine ok_def [0, 1, 2, 3] T.F__law_paper sc__law_paper fun cdv A outer s H E hr => ?_
  have nd := sc__law_paper.nd
  have tk := L2N.takes_of (X := cxOf (L2N.CX P w) P w K mg base ["_law_life_here", "_law_tour", "_law_view_here", "_law_thing_here", "_law_found", "_law_k"] "_law_paper" (defScope s__law_paper) (ad 39) cdv A outer s H E) rfl rfl rfl rfl
  have po := passes_of (X := cxOf (L2N.CX P w) P w K mg base ["_law_life_here", "_law_tour", "_law_view_here", "_law_thing_here", "_law_found", "_law_k"] "_law_paper" (defScope s__law_paper) (ad 39) cdv A outer s H E) rfl
  exact (dss_cons (ds_if (dt_w (dw_or (dt_not (dt_val (de_isi (T := "tuple") T.b_isinstance T.b_tuple (dk_nm 3)))) (dw_or1 (dt_cmp (op_neD hr.units) s_ne (dk_ex (de_callB call_len_seq s_len T.b_len (da_cons (dk_nm 3) da_nil))) (dk_ex de_int))))) (dss_one (ds_ret (de_lst (da_cons (dk_ex de_str) (da_cons (dk_ex de_str) (da_cons (dk_ex (de_un un_neg s_neg (dk_ex de_int))) da_nil)))))) dss_nil)
      (dss_cons (ds_if (dt_not (dt_val (de_call (ok__law_moments T) (hr.mono (by decide)) T.m__law_moments T.F__law_moments.kp T.b__law_moments tk (da_cons (dk_nm 0) (da_cons (dk_nm 1) (da_cons (dk_ex (de_ix ix_lt s_ix (dk_nm 3) (dk_ex de_int))) da_nil)))))) (dss_one (ds_ret (de_lst (da_cons (dk_ex de_str) (da_cons (dk_ex de_str) (da_cons (dk_ex (de_un un_neg s_neg (dk_ex de_int))) da_nil)))))) dss_nil)
      (dss_cons (ds_set (i := 4) nd (de_call (ok__law_fronts T) (hr.mono (by decide)) T.m__law_fronts T.F__law_fronts.kp T.b__law_fronts tk (da_cons (dk_nm 0) (da_cons (dk_nm 1) (da_cons (dk_nm 2) (da_cons (dk_ex de_int) (da_cons (dk_ex (de_callB call_len_seq s_len T.b_len (da_cons (dk_ex (de_ix ix_lt s_ix (dk_nm 0) (dk_ex de_int))) da_nil))) da_nil)))))))
      (dss_cons (ds_for po rfl (di_range1 T.b_range (da_cons (dk_ex (de_callB call_len_seq s_len T.b_len (da_cons (dk_nm 1) da_nil))) da_nil)) (dg_n (i := 5) nd) (dss_one (ds_if (dt_w (dw_or (dt_cmp op_ge s_ge (dk_nm 5) (dk_ex (de_callB call_len_seq s_len T.b_len (da_cons (dk_nm 4) da_nil)))) (dw_or1 (dt_cmp (op_neD hr.units) s_ne (dk_ex (de_ix ix_lt s_ix (dk_ex (de_ix ix_lt s_ix (dk_nm 3) (dk_ex de_int))) (dk_nm 5))) (dk_ex (de_ix ix_lt s_ix (dk_nm 4) (dk_nm 5))))))) (dss_one (ds_ret (de_lst (da_cons (dk_ex de_str) (da_cons (dk_ex de_str) (da_cons (dk_ex (de_mv 5)) da_nil)))))) dss_nil)))
      (dss_cons (ds_if (dt_not (dt_val (de_call (ok__law_moments T) (hr.mono (by decide)) T.m__law_moments T.F__law_moments.kp T.b__law_moments tk (da_cons (dk_nm 0) (da_cons (dk_nm 1) (da_cons (dk_ex (de_ix ix_lt s_ix (dk_nm 3) (dk_ex de_int))) da_nil)))))) (dss_one (ds_ret (de_lst (da_cons (dk_ex de_str) (da_cons (dk_ex de_str) (da_cons (dk_ex (de_un un_neg s_neg (dk_ex de_int))) da_nil)))))) dss_nil)
      (dss_cons (ds_set (i := 4) nd (de_call (ok__law_turned T) (hr.mono (by decide)) T.m__law_turned T.F__law_turned.kp T.b__law_turned tk (da_cons (dk_nm 0) (da_cons (dk_nm 1) (da_cons (dk_nm 2) da_nil)))))
      (dss_cons (ds_for po rfl (di_revRg T.b_reversed T.b_range (de_callB call_len_seq s_len T.b_len (da_cons (dk_nm 1) da_nil))) (dg_n (i := 5) nd) (dss_one (ds_if (dt_cmp (op_neD hr.units) s_ne (dk_ex (de_ix ix_lt s_ix (dk_ex (de_ix ix_lt s_ix (dk_nm 3) (dk_ex de_int))) (dk_nm 5))) (dk_ex (de_ix ix_lt s_ix (dk_nm 4) (dk_ex (de_bin op_sub s_sub (dk_ex (de_bin op_sub s_sub (dk_ex (de_callB call_len_seq s_len T.b_len (da_cons (dk_nm 1) da_nil))) (dk_ex de_int))) (dk_nm 5)))))) (dss_one (ds_ret (de_lst (da_cons (dk_ex de_str) (da_cons (dk_ex de_str) (da_cons (dk_ex (de_mv 5)) da_nil)))))) dss_nil)))
      (dss_one (ds_ret (de_tup (da_cons (dk_ex (de_ix ix_lt s_ix (dk_ex (de_ix ix_lt s_ix (dk_ex (de_ix ix_lt s_ix (dk_nm 0) (dk_ex de_int))) (dk_ex (de_ix ix_lt s_ix (dk_ex (de_ix ix_lt s_ix (dk_nm 3) (dk_ex de_int))) (dk_ex de_int))))) (dk_ex de_int))) (da_cons (dk_ex (de_ix ix_lt s_ix (dk_ex (de_ix ix_lt s_ix (dk_ex (de_ix ix_lt s_ix (dk_nm 0) (dk_ex de_int))) (dk_ex (de_ix ix_lt s_ix (dk_ex (de_ix ix_lt s_ix (dk_nm 3) (dk_ex de_int))) (dk_ex (de_un un_neg s_neg (dk_ex de_int))))))) (dk_ex de_int))) da_nil))))))))))))
/-! _law_asked -/
def m__law_asked : MS :=
  mTryM [(xCat_InvalidPaper, fun xx => mRet (mAll oLst [.ex (mC (.str "paper")), .ex (mXf xKnown_word "word" xx), .ex (mXf xKnown_at "at" xx)])), (xCat_NotUsable, fun xx => mRet (mAll oLst [.ex (mC (.str "refused")), .ex (mXf xKnown_word "word" xx), .ex (mXf xKnown_at "at" xx)])), (xCat_Unseen, fun xx => mRet (mAll oLst [.ex (mC (.str "unseen")), .ex (mXf xKnown_place "place" xx)]))] 6 (mSeq (mIf (mB (mOp (oEq false) [.nm 0, .ex (mC (.int 0))])) (mSeq (mIf (mTru (.nm 5)) (mRet (mCallP [2, 0, 1] D_early_moments [.nm 2, .nm 3, .nm 1])) (mPass))
  (mRet (mCall D_early_moments [.nm 1, .nm 2, .nm 3]))) (mPass))
  (mSeq (mIf (mB (mOp (oEq false) [.nm 0, .ex (mC (.int 1))])) (mSeq (mIf (mTru (.nm 5)) (mRet (mCallP [2, 1, 0] D_late_moments [.nm 3, .nm 2, .nm 1])) (mPass))
  (mRet (mCall D_late_moments [.nm 1, .nm 2, .nm 3]))) (mPass))
  (mSeq (mIf (mB (mOp (oEq false) [.nm 0, .ex (mC (.int 2))])) (mSeq (mIf (mTru (.nm 5)) (mRet (mCallP [1, 2, 0] D_life_span [.nm 3, .nm 1, .nm 2])) (mPass))
  (mRet (mCall D_life_span [.nm 1, .nm 2, .nm 3]))) (mPass))
  (mSeq (mIf (mB (mOp (oEq false) [.nm 0, .ex (mC (.int 3))])) (mSeq (mIf (mTru (.nm 5)) (mRet (mCallP [1, 0, 2] D_answer_paper [.nm 2, .nm 1, .nm 3])) (mPass))
  (mRet (mCall D_answer_paper [.nm 1, .nm 2, .nm 3]))) (mPass))
  (mSeq (mIf (mTru (.nm 5)) (mRet (mCallP [3, 2, 1, 0] D_lets_answer [.nm 4, .nm 3, .nm 2, .nm 1])) (mPass))
  (mRet (mCall D_lets_answer [.nm 1, .nm 2, .nm 3, .nm 4])))))))
def D__law_asked : List O → FR := fnD [0, 1, 2, 3, 4, 5] 7 m__law_asked
theorem sc__law_asked : FnScope ["_law_which", "_law_life_here", "_law_tour", "_law_view_here", "_law_thing_here", "_law_named", "why"] ["_law_which", "_law_life_here", "_law_tour", "_law_view_here", "_law_thing_here", "_law_named"] (defScope s__law_asked) := ⟨rfl, rfl, rfl, by decide +kernel, rfl, by decide +kernel, by decide +kernel⟩
theorem ok__law_asked {P : Program} {w : World} {K : PySem.W.Frag} {mg : Str → Option Value} {base : Heap} {ad : Nat → Addr} {fdn : Nat → FuncData} (T : Txt K mg ad fdn) : FnOk P w K mg base (L2N.CX P w) 8 (ad 40) (fdn 40) ["_law_which", "_law_life_here", "_law_tour", "_law_view_here", "_law_thing_here", "_law_named"] (FP K mg 6 D__law_asked) := by
  refine ok_def [0, 1, 2, 3, 4, 5] T.F__law_asked sc__law_asked fun cdv A outer s H E hr => ?_
  have nd := sc__law_asked.nd
  have tk := L2N.takes_of (X := cxOf (L2N.CX P w) P w K mg base ["_law_which", "_law_life_here", "_law_tour", "_law_view_here", "_law_thing_here", "_law_named", "why"] "_law_asked" (defScope s__law_asked) (ad 40) cdv A outer s H E) rfl rfl rfl rfl
  have po := passes_of (X := cxOf (L2N.CX P w) P w K mg base ["_law_which", "_law_life_here", "_law_tour", "_law_view_here", "_law_thing_here", "_law_named", "why"] "_law_asked" (defScope s__law_asked) (ad 40) cdv A outer s H E) rfl
  exact (dss_one (ds_tryM (nl := [0, 1, 2, 3, 4, 5]) (i := 6) rfl rfl nd rfl rfl tk (by decide) (fun _ pn xe tk po => (dss_cons (ds_if (dt_cmp (op_eqD hr.units) s_eq (dk_nm 0) (dk_ex de_int)) (dss_cons (ds_if (dt_tru (dk_nm 5)) (dss_one (ds_ret (de_callKWP (ok_early_moments T) (hr.mono (by decide)) T.m_early_moments T.F_early_moments.kp T.kp_early_moments_120 tk (dkw_cons (dk_nm 2) (dkw_cons (dk_nm 3) (dkw_cons (dk_nm 1) dkw_nil))) rfl (by intro vs hl; match vs, hl with | [_, _, _], _ => rfl)))) dss_nil)
      (dss_one (ds_ret (de_call (ok_early_moments T) (hr.mono (by decide)) T.m_early_moments T.F_early_moments.kp T.b_early_moments tk (da_cons (dk_nm 1) (da_cons (dk_nm 2) (da_cons (dk_nm 3) da_nil))))))) dss_nil)
      (dss_cons (ds_if (dt_cmp (op_eqD hr.units) s_eq (dk_nm 0) (dk_ex de_int)) (dss_cons (ds_if (dt_tru (dk_nm 5)) (dss_one (ds_ret (de_callKWP (ok_late_moments T) (hr.mono (by decide)) T.m_late_moments T.F_late_moments.kp T.kp_late_moments_210 tk (dkw_cons (dk_nm 3) (dkw_cons (dk_nm 2) (dkw_cons (dk_nm 1) dkw_nil))) rfl (by intro vs hl; match vs, hl with | [_, _, _], _ => rfl)))) dss_nil)
      (dss_one (ds_ret (de_call (ok_late_moments T) (hr.mono (by decide)) T.m_late_moments T.F_late_moments.kp T.b_late_moments tk (da_cons (dk_nm 1) (da_cons (dk_nm 2) (da_cons (dk_nm 3) da_nil))))))) dss_nil)
      (dss_cons (ds_if (dt_cmp (op_eqD hr.units) s_eq (dk_nm 0) (dk_ex de_int)) (dss_cons (ds_if (dt_tru (dk_nm 5)) (dss_one (ds_ret (de_callKWP (ok_life_span T) (hr.mono (by decide)) T.m_life_span T.F_life_span.kp T.kp_life_span_201 tk (dkw_cons (dk_nm 3) (dkw_cons (dk_nm 1) (dkw_cons (dk_nm 2) dkw_nil))) rfl (by intro vs hl; match vs, hl with | [_, _, _], _ => rfl)))) dss_nil)
      (dss_one (ds_ret (de_call (ok_life_span T) (hr.mono (by decide)) T.m_life_span T.F_life_span.kp T.b_life_span tk (da_cons (dk_nm 1) (da_cons (dk_nm 2) (da_cons (dk_nm 3) da_nil))))))) dss_nil)
      (dss_cons (ds_if (dt_cmp (op_eqD hr.units) s_eq (dk_nm 0) (dk_ex de_int)) (dss_cons (ds_if (dt_tru (dk_nm 5)) (dss_one (ds_ret (de_callKWP (ok_answer_paper T) (hr.mono (by decide)) T.m_answer_paper T.F_answer_paper.kp T.kp_answer_paper_102 tk (dkw_cons (dk_nm 2) (dkw_cons (dk_nm 1) (dkw_cons (dk_nm 3) dkw_nil))) rfl (by intro vs hl; match vs, hl with | [_, _, _], _ => rfl)))) dss_nil)
      (dss_one (ds_ret (de_call (ok_answer_paper T) (hr.mono (by decide)) T.m_answer_paper T.F_answer_paper.kp T.b_answer_paper tk (da_cons (dk_nm 1) (da_cons (dk_nm 2) (da_cons (dk_nm 3) da_nil))))))) dss_nil)
      (dss_cons (ds_if (dt_tru (dk_nm 5)) (dss_one (ds_ret (de_callKWP (ok_lets_answer T) (hr.mono (by decide)) T.m_lets_answer T.F_lets_answer.kp T.kp_lets_answer_3210 tk (dkw_cons (dk_nm 4) (dkw_cons (dk_nm 3) (dkw_cons (dk_nm 2) (dkw_cons (dk_nm 1) dkw_nil)))) rfl (by intro vs hl; match vs, hl with | [_, _, _, _], _ => rfl)))) dss_nil)
      (dss_one (ds_ret (de_call (ok_lets_answer T) (hr.mono (by decide)) T.m_lets_answer T.F_lets_answer.kp T.b_lets_answer tk (da_cons (dk_nm 1) (da_cons (dk_nm 2) (da_cons (dk_nm 3) (da_cons (dk_nm 4) da_nil))))))))))))) (.cons ⟨rfl, by decide, .inl T.mC_InvalidPaper⟩ T.cat_InvalidPaper (fun xx a oe cls d pn hz hf => (dss_one (ds_ret (de_lst (da_cons (dk_ex de_str) (da_cons (dk_ex (de_xf hz hf T.xf_word)) (da_cons (dk_ex (de_xf hz hf T.xf_at)) da_nil)))))))
      (.cons ⟨rfl, by decide, .inl T.mC_NotUsable⟩ T.cat_NotUsable (fun xx a oe cls d pn hz hf => (dss_one (ds_ret (de_lst (da_cons (dk_ex de_str) (da_cons (dk_ex (de_xf hz hf T.xf_word)) (da_cons (dk_ex (de_xf hz hf T.xf_at)) da_nil)))))))
      (.cons ⟨rfl, by decide, .inl T.mC_Unseen⟩ T.cat_Unseen (fun xx a oe cls d pn hz hf => (dss_one (ds_ret (de_lst (da_cons (dk_ex de_str) (da_cons (dk_ex (de_xf hz hf T.xf_place)) da_nil))))))
      .nil)))))
/-! _law_bent -/
def m__law_bent : MS :=
  mSeq (mSet 3 (mCall D__law_take [.nm 0, .ex (mOp oLen [.nm 2])]))
  (mSeq (mSet 4 (mCall D__law_take [.nm 0, .ex (mC (.int 10))]))
  (mSeq (mSet 5 (mOp oLen [.ex (mOp oIx [.nm 1, .ex (mC (.int 1))])]))
  (mSeq (mIf (mB (mOp (oEq false) [.nm 4, .ex (mC (.int 0))])) (mRet (mOp (op1 toLst) [.nm 2])) (mPass))
  (mSeq (mIf (mB (mOp (oEq false) [.nm 4, .ex (mC (.int 1))])) (mRet (mSlice (.nm 2) none (some (mOp oNeg [.ex (mC (.int 1))])))) (mPass))
  (mSeq (mIf (mB (mOp (oEq false) [.nm 4, .ex (mC (.int 2))])) (mRet (mOp oPlusB [.nm 2, .ex (mSlice (.nm 2) (some (mOp oNeg [.ex (mC (.int 1))])) none)])) (mPass))
  (mSeq (mSet 6 (mOp oIx [.ex (mAll oLst [.ex (mOp oBool [.ex (mOp oIx [.nm 2, .nm 3])]), .ex (mOp oNeg [.ex (mC (.int 1))]), .ex (mN 5)]), .ex (mOp oMod [.ex (mOp oInt [.nm 4]), .ex (mC (.int 3))])]))
  (mSeq (mIf (mB (mOp oGt [.nm 4, .ex (mC (.int 5))])) (mSet 6 (mOp oMod [.ex (mOp oInt [.ex (mOp oPlusB [.ex (mOp oIx [.nm 2, .nm 3]), .ex (mOp oIx [.ex (mAll oLst [.ex (mC (.int 1)), .ex (mOp oSub [.nm 5, .ex (mC (.int 1))]), .ex (mCall D__law_take [.nm 0, .nm 5])]), .ex (mOp oMod [.ex (mOp oInt [.nm 4]), .ex (mC (.int 3))])])])]), .nm 5])) (mPass))
  (mRet (mOp oPlusB [.ex (mOp oPlusB [.ex (mSlice (.nm 2) none (some (mN 3))), .ex (mAll oTup [.ex (mN 6)])]), .ex (mSlice (.nm 2) (some (mOp oPlusB [.nm 3, .ex (mC (.int 1))])) none)])))))))))
def D__law_bent : List O → FR := fnD [0, 1, 2] 7 m__law_bent
theorem sc__law_bent : FnScope ["_law_draws_here", "_law_life_here", "_law_row", "_law_place", "_law_kind", "_law_many", "_law_odd"] ["_law_draws_here", "_law_life_here", "_law_row"] (defScope s__law_bent) := ⟨rfl, rfl, rfl, by decide +kernel, rfl, by decide +kernel, by decide +kernel⟩
theorem ok__law_bent {P : Program} {w : World} {K : PySem.W.Frag} {mg : Str → Option Value} {base : Heap} {ad : Nat → Addr} {fdn : Nat → FuncData} (T : Txt K mg ad fdn) : FnOk P w K mg base (L2N.CX P w) 2 (ad 41) (fdn 41) ["_law_draws_here", "_law_life_here", "_law_row"] (FP K mg 3 D__law_bent) := by
  refine ok_def [0, 1, 2] T.F__law_bent sc__law_bent fun cdv A outer s H E hr => ?_
  have nd := sc__law_bent.nd
  have tk := L2N.takes_of (X := cxOf (L2N.CX P w) P w K mg base ["_law_draws_here", "_law_life_here", "_law_row", "_law_place", "_law_kind", "_law_many", "_law_odd"] "_law_bent" (defScope s__law_bent) (ad 41) cdv A outer s H E) rfl rfl rfl rfl
  have po := passes_of (X := cxOf (L2N.CX P w) P w K mg base ["_law_draws_here", "_law_life_here", "_law_row", "_law_place", "_law_kind", "_law_many", "_law_odd"] "_law_bent" (defScope s__law_bent) (ad 41) cdv A outer s H E) rfl
  exact (dss_cons (ds_set (i := 3) nd (de_call (ok__law_take T) (hr.mono (by decide)) T.m__law_take T.F__law_take.kp T.b__law_take tk (da_cons (dk_nm 0) (da_cons (dk_ex (de_callB call_len_seq s_len T.b_len (da_cons (dk_nm 2) da_nil))) da_nil))))
      (dss_cons (ds_set (i := 4) nd (de_call (ok__law_take T) (hr.mono (by decide)) T.m__law_take T.F__law_take.kp T.b__law_take tk (da_cons (dk_nm 0) (da_cons (dk_ex de_int) da_nil))))
      (dss_cons (ds_set (i := 5) nd (de_callB call_len_seq s_len T.b_len (da_cons (dk_ex (de_ix ix_lt s_ix (dk_nm 1) (dk_ex de_int))) da_nil)))
      (dss_cons (ds_if (dt_cmp (op_eqD hr.units) s_eq (dk_nm 4) (dk_ex de_int)) (dss_one (ds_ret (de_callTy call_list_of s_list T.b_list (da_cons (dk_nm 2) da_nil)))) dss_nil)
      (dss_cons (ds_if (dt_cmp (op_eqD hr.units) s_eq (dk_nm 4) (dk_ex de_int)) (dss_one (ds_ret (de_slice (dk_nm 2) dp_none (dp_some (de_un un_neg s_neg (dk_ex de_int)))))) dss_nil)
      (dss_cons (ds_if (dt_cmp (op_eqD hr.units) s_eq (dk_nm 4) (dk_ex de_int)) (dss_one (ds_ret (de_bin op_plusB s_plusB (dk_nm 2) (dk_ex (de_slice (dk_nm 2) (dp_some (de_un un_neg s_neg (dk_ex de_int))) dp_none))))) dss_nil)
      (dss_cons (ds_set (i := 6) nd (de_ix ix_lt s_ix (dk_ex (de_lst (da_cons (dk_ex (de_callTy call_bool1 s_bool T.b_bool (da_cons (dk_ex (de_ix ix_lt s_ix (dk_nm 2) (dk_nm 3))) da_nil))) (da_cons (dk_ex (de_un un_neg s_neg (dk_ex de_int))) (da_cons (dk_ex (de_n 5)) da_nil))))) (dk_ex (de_bin op_modN s_mod (dk_ex (de_callTy call_int1 s_int T.b_int (da_cons (dk_nm 4) da_nil))) (dk_ex de_int)))))
      (dss_cons (ds_if (dt_cmp op_gt s_gt (dk_nm 4) (dk_ex de_int)) (dss_one (ds_set (i := 6) nd (de_bin op_modN s_mod (dk_ex (de_callTy call_int1 s_int T.b_int (da_cons (dk_ex (de_bin op_plusB s_plusB (dk_ex (de_ix ix_lt s_ix (dk_nm 2) (dk_nm 3))) (dk_ex (de_ix ix_lt s_ix (dk_ex (de_lst (da_cons (dk_ex de_int) (da_cons (dk_ex (de_bin op_sub s_sub (dk_nm 5) (dk_ex de_int))) (da_cons (dk_ex (de_call (ok__law_take T) (hr.mono (by decide)) T.m__law_take T.F__law_take.kp T.b__law_take tk (da_cons (dk_nm 0) (da_cons (dk_nm 5) da_nil)))) da_nil))))) (dk_ex (de_bin op_modN s_mod (dk_ex (de_callTy call_int1 s_int T.b_int (da_cons (dk_nm 4) da_nil))) (dk_ex de_int))))))) da_nil))) (dk_nm 5)))) dss_nil)
      (dss_one (ds_ret (de_bin op_plusB s_plusB (dk_ex (de_bin op_plusB s_plusB (dk_ex (de_slice (dk_nm 2) dp_none (dp_some (de_n 3)))) (dk_ex (de_tup (da_cons (dk_ex (de_n 6)) da_nil))))) (dk_ex (de_slice (dk_nm 2) (dp_some (de_bin op_plusB s_plusB (dk_nm 3) (dk_ex de_int))) dp_none)))))))))))))
/-! _law_thing -/
def m__law_thing : MS :=
  mSeq (mSet 4 (mCall D__law_take [.nm 0, .ex (mC (.int 10))]))
  (mSeq (mUnp (mN 2) (gT [gN 5, gN 6]))
  (mSeq (mIf (mB (mOp (oEq false) [.nm 4, .ex (mC (.int 0))])) (mRet (mOp oIx [.ex (mAll oLst [.ex (mAll oTup [.ex (mN 5)]), .ex (mAll oTup [.ex (mN 5), .ex (mN 6), .ex (mN 6)]), .ex (mFz (mAll oLst [.ex (mN 5), .ex (mN 6)])), .ex (mC .non), .ex (mN 5), .ex (mC (.str "early"))]), .ex (mCall D__law_take [.nm 0, .ex (mC (.int 6))])])) (mPass))
  (mSeq (mIf (mB (mOp (oEq false) [.nm 4, .ex (mC (.int 1))])) (mRet (mAll oTup [.ex (mN 6), .ex (mN 5)])) (mPass))
  (mSeq (mIf (mB (mOp (oEq false) [.nm 4, .ex (mC (.int 2))])) (mRet (mMv 3)) (mPass))
  (mSeq (mIf (mB (mOp (oEq false) [.nm 4, .ex (mC (.int 3))])) (mRet (mAll oTup [.ex (mN 5), .ex (mOp oIx [.nm 3, .ex (mC (.int 1))])])) (mPass))
  (mSeq (mIf (mTOr (mB (mOp oGt [.nm 4, .ex (mC (.int 5))])) (mB (mOp (oEq false) [.nm 4, .ex (mC (.int 4))]))) (mSeq (mSet 6 (mCall D__law_bent [.nm 0, .nm 1, .nm 6]))
  (mIf (mTAnd (mB (mOp oGt [.nm 4, .ex (mC (.int 7))])) (mTAnd (mB (mOp (oIsi "tuple") [.nm 6])) (mB (mOp oGt [.ex (mOp oLen [.nm 6]), .ex (mC (.int 0))])))) (mSet 6 (mCall D__law_bent [.nm 0, .nm 1, .nm 6])) (mPass))) (mPass))
  (mSeq (mIf (mTOr (mB (mOp (oEq false) [.nm 4, .ex (mC (.int 4))])) (mB (mOp (oEq false) [.nm 4, .ex (mC (.int 5))]))) (mSeq (mSet 5 (mCall D__law_bent [.nm 0, .nm 1, .nm 5]))
  (mIf (mTAnd (mB (mOp (oEq false) [.ex (mCall D__law_take [.nm 0, .ex (mC (.int 2))]), .ex (mC (.int 0))])) (mTAnd (mB (mOp (oIsi "tuple") [.nm 5])) (mB (mOp oGt [.ex (mOp oLen [.nm 5]), .ex (mC (.int 0))])))) (mSet 5 (mCall D__law_bent [.nm 0, .nm 1, .nm 5])) (mPass))) (mPass))
  (mRet (mAll oTup [.ex (mN 5), .ex (mN 6)])))))))))
def D__law_thing : List O → FR := fnD [0, 1, 2, 3] 7 m__law_thing
theorem sc__law_thing : FnScope ["_law_draws_here", "_law_life_here", "_law_pair", "_law_other", "_law_kind", "_law_early_here", "_law_late_here"] ["_law_draws_here", "_law_life_here", "_law_pair", "_law_other"] (defScope s__law_thing) := ⟨rfl, rfl, rfl, by decide +kernel, rfl, by decide +kernel, by decide +kernel⟩
theorem ok__law_thing {P : Program} {w : World} {K : PySem.W.Frag} {mg : Str → Option Value} {base : Heap} {ad : Nat → Addr} {fdn : Nat → FuncData} (T : Txt K mg ad fdn) : FnOk P w K mg base (L2N.CX P w) 3 (ad 42) (fdn 42) ["_law_draws_here", "_law_life_here", "_law_pair", "_law_other"] (FP K mg 4 D__law_thing) := by
  refine ok_def [0, 1, 2, 3] T.F__law_thing sc__law_thing fun cdv A outer s H E hr => ?_
  have nd := sc__law_thing.nd
  have tk := L2N.takes_of (X := cxOf (L2N.CX P w) P w K mg base ["_law_draws_here", "_law_life_here", "_law_pair", "_law_other", "_law_kind", "_law_early_here", "_law_late_here"] "_law_thing" (defScope s__law_thing) (ad 42) cdv A outer s H E) rfl rfl rfl rfl
  have po := passes_of (X := cxOf (L2N.CX P w) P w K mg base ["_law_draws_here", "_law_life_here", "_law_pair", "_law_other", "_law_kind", "_law_early_here", "_law_late_here"] "_law_thing" (defScope s__law_thing) (ad 42) cdv A outer s H E) rfl
  exact (dss_cons (ds_set (i := 4) nd (de_call (ok__law_take T) (hr.mono (by decide)) T.m__law_take T.F__law_take.kp T.b__law_take tk (da_cons (dk_nm 0) (da_cons (dk_ex de_int) da_nil))))
      (dss_cons (ds_unp (de_n 2) (dg_t rfl (dgs_cons (dg_n (i := 5) nd) (dgs_cons (dg_n (i := 6) nd) dgs_nil))))
      (dss_cons (ds_if (dt_cmp (op_eqD hr.units) s_eq (dk_nm 4) (dk_ex de_int)) (dss_one (ds_ret (de_ix ix_lt s_ix (dk_ex (de_lst (da_cons (dk_ex (de_tup (da_cons (dk_ex (de_n 5)) da_nil))) (da_cons (dk_ex (de_tup (da_cons (dk_ex (de_n 5)) (da_cons (dk_ex (de_n 6)) (da_cons (dk_ex (de_n 6)) da_nil))))) (da_cons (dk_ex (de_fz (de_lst (da_cons (dk_ex (de_n 5)) (da_cons (dk_ex (de_n 6)) da_nil))))) (da_cons (dk_ex de_non) (da_cons (dk_ex (de_n 5)) (da_cons (dk_ex de_str) da_nil)))))))) (dk_ex (de_call (ok__law_take T) (hr.mono (by decide)) T.m__law_take T.F__law_take.kp T.b__law_take tk (da_cons (dk_nm 0) (da_cons (dk_ex de_int) da_nil))))))) dss_nil)
      (dss_cons (ds_if (dt_cmp (op_eqD hr.units) s_eq (dk_nm 4) (dk_ex de_int)) (dss_one (ds_ret (de_tup (da_cons (dk_ex (de_n 6)) (da_cons (dk_ex (de_n 5)) da_nil))))) dss_nil)
      (dss_cons (ds_if (dt_cmp (op_eqD hr.units) s_eq (dk_nm 4) (dk_ex de_int)) (dss_one (ds_ret (de_mv 3))) dss_nil)
      (dss_cons (ds_if (dt_cmp (op_eqD hr.units) s_eq (dk_nm 4) (dk_ex de_int)) (dss_one (ds_ret (de_tup (da_cons (dk_ex (de_n 5)) (da_cons (dk_ex (de_ix ix_lt s_ix (dk_nm 3) (dk_ex de_int))) da_nil))))) dss_nil)
      (dss_cons (ds_if (dt_w (dw_or (dt_cmp op_gt s_gt (dk_nm 4) (dk_ex de_int)) (dw_or1 (dt_cmp (op_eqD hr.units) s_eq (dk_nm 4) (dk_ex de_int))))) (dss_cons (ds_set (i := 6) nd (de_call (ok__law_bent T) (hr.mono (by decide)) T.m__law_bent T.F__law_bent.kp T.b__law_bent tk (da_cons (dk_nm 0) (da_cons (dk_nm 1) (da_cons (dk_nm 6) da_nil)))))
      (dss_one (ds_if (dt_w (dw_and (dt_cmp op_gt s_gt (dk_nm 4) (dk_ex de_int)) (dw_and (dt_val (de_isi (T := "tuple") T.b_isinstance T.b_tuple (dk_nm 6))) (dw_and1 (dt_cmp op_gt s_gt (dk_ex (de_callB call_len_seq s_len T.b_len (da_cons (dk_nm 6) da_nil))) (dk_ex de_int)))))) (dss_one (ds_set (i := 6) nd (de_call (ok__law_bent T) (hr.mono (by decide)) T.m__law_bent T.F__law_bent.kp T.b__law_bent tk (da_cons (dk_nm 0) (da_cons (dk_nm 1) (da_cons (dk_nm 6) da_nil)))))) dss_nil))) dss_nil)
      (dss_cons (ds_if (dt_w (dw_or (dt_cmp (op_eqD hr.units) s_eq (dk_nm 4) (dk_ex de_int)) (dw_or1 (dt_cmp (op_eqD hr.units) s_eq (dk_nm 4) (dk_ex de_int))))) (dss_cons (ds_set (i := 5) nd (de_call (ok__law_bent T) (hr.mono (by decide)) T.m__law_bent T.F__law_bent.kp T.b__law_bent tk (da_cons (dk_nm 0) (da_cons (dk_nm 1) (da_cons (dk_nm 5) da_nil)))))
      (dss_one (ds_if (dt_w (dw_and (dt_cmp (op_eqD hr.units) s_eq (dk_ex (de_call (ok__law_take T) (hr.mono (by decide)) T.m__law_take T.F__law_take.kp T.b__law_take tk (da_cons (dk_nm 0) (da_cons (dk_ex de_int) da_nil)))) (dk_ex de_int)) (dw_and (dt_val (de_isi (T := "tuple") T.b_isinstance T.b_tuple (dk_nm 5))) (dw_and1 (dt_cmp op_gt s_gt (dk_ex (de_callB call_len_seq s_len T.b_len (da_cons (dk_nm 5) da_nil))) (dk_ex de_int)))))) (dss_one (ds_set (i := 5) nd (de_call (ok__law_bent T) (hr.mono (by decide)) T.m__law_bent T.F__law_bent.kp T.b__law_bent tk (da_cons (dk_nm 0) (da_cons (dk_nm 1) (da_cons (dk_nm 5) da_nil)))))) dss_nil))) dss_nil)
      (dss_one (ds_ret (de_tup (da_cons (dk_ex (de_n 5)) (da_cons (dk_ex (de_n 6)) da_nil)))))))))))))
/-! _law_filled -/
def m__law_filled : MS :=
  mSeq (mSet 4 (mCall D__law_fronts [.nm 1, .nm 2, .nm 3, .ex (mC (.int 0)), .ex (mOp oLen [.ex (mOp oIx [.nm 1, .ex (mC (.int 1))])])]))
  (mSeq (mSet 5 (mOp oPlus [.nm 4, .ex (mComp (mRg [.ex (mOp oSub [.ex (mOp oLen [.nm 2]), .ex (mOp oLen [.nm 4])])]) [7] (gN 7) (mYes) (mCall D__law_take [.nm 0, .ex (mOp oLen [.ex (mOp oIx [.nm 1, .ex (mC (.int 1))])])]))]))
  (mSeq (mSet 4 (mCall D__law_turned [.nm 1, .nm 2, .nm 3]))
  (mSeq (mSet 6 (mOp oPlus [.nm 4, .ex (mComp (mRg [.ex (mOp oSub [.ex (mOp oLen [.nm 2]), .ex (mOp oLen [.nm 4])])]) [7] (gN 7) (mYes) (mCall D__law_take [.nm 0, .ex (mOp oLen [.ex (mOp oIx [.nm 1, .ex (mC (.int 1))])])]))]))
  (mRet (mAll oTup [.ex (mOp (op1 toTup) [.nm 5]), .ex (mOp (op1 toTup) [.ex (mOp (op1 toRv) [.nm 6])])])))))
def D__law_filled : List O → FR := fnD [0, 1, 2, 3] 8 m__law_filled
theorem sc__law_filled : FnScope ["_law_draws_here", "_law_life_here", "_law_tour", "_law_view_here", "_law_found", "_law_early_here", "_law_late_here", "_law_k"] ["_law_draws_here", "_law_life_here", "_law_tour", "_law_view_here"] (defScope s__law_filled) := ⟨rfl, rfl, rfl, by decide +kernel, rfl, by decide +kernel, by decide +kernel⟩
theorem ok__law_filled {P : Program} {w : World} {K : PySem.W.Frag} {mg : Str → Option Value} {base : Heap} {ad : Nat → Addr} {fdn : Nat → FuncData} (T : Txt K mg ad fdn) : FnOk P w K mg base (L2N.CX P w) 3 (ad 43) (fdn 43) ["_law_draws_here", "_law_life_here", "_law_tour", "_law_view_here"] (FP K mg 4 D__law_filled) := by
  refine ok_def [0, 1, 2, 3] T.F__law_filled sc__law_filled fun cdv A outer s H E hr => ?_
  have nd := sc__law_filled.nd
  have tk := L2N.takes_of (X := cxOf (L2N.CX P w) P w K mg base ["_law_draws_here", "_law_life_here", "_law_tour", "_law_view_here", "_law_found", "_law_early_here", "_law_late_here", "_law_k"] "_law_filled" (defScope s__law_filled) (ad 43) cdv A outer s H E) rfl rfl rfl rfl
  have po := passes_of (X := cxOf (L2N.CX P w) P w K mg base ["_law_draws_here", "_law_life_here", "_law_tour", "_law_view_here", "_law_found", "_law_early_here", "_law_late_here", "_law_k"] "_law_filled" (defScope s__law_filled) (ad 43) cdv A outer s H E) rfl
  exact (dss_cons (ds_set (i := 4) nd (de_call (ok__law_fronts T) (hr.mono (by decide)) T.m__law_fronts T.F__law_fronts.kp T.b__law_fronts tk (da_cons (dk_nm 1) (da_cons (dk_nm 2) (da_cons (dk_nm 3) (da_cons (dk_ex de_int) (da_cons (dk_ex (de_callB call_len_seq s_len T.b_len (da_cons (dk_ex (de_ix ix_lt s_ix (dk_nm 1) (dk_ex de_int))) da_nil))) da_nil)))))))
      (dss_cons (ds_set (i := 5) nd (de_bin op_plus s_plus (dk_nm 4) (dk_ex (de_comp (own := [("_law_k", 7)]) rfl nd (blkOk_by rfl) (by decide) (di_range1 T.b_range (da_cons (dk_ex (de_bin op_sub s_sub (dk_ex (de_callB call_len_seq s_len T.b_len (da_cons (dk_nm 2) da_nil))) (dk_ex (de_callB call_len_seq s_len T.b_len (da_cons (dk_nm 4) da_nil))))) da_nil)) (fun _ => pg_name (i := 7) nd rfl (by first | exact Or.inl rfl | exact Or.inr rfl)) (gsnd_n (i := 7) (by decide)) (gw_n (i := 7) (by decide)) (fun _ => dts_nil) (fun _ => (de_call (ok__law_take T) (hr.mono (by decide)) T.m__law_take T.F__law_take.kp T.b__law_take takes0N (da_cons (dk_nm 0) (da_cons (dk_ex (de_callB call_len_seq s_len T.b_len (da_cons (dk_ex (de_ix ix_lt s_ix (dk_nm 1) (dk_ex de_int))) da_nil))) da_nil))))))))
      (dss_cons (ds_set (i := 4) nd (de_call (ok__law_turned T) (hr.mono (by decide)) T.m__law_turned T.F__law_turned.kp T.b__law_turned tk (da_cons (dk_nm 1) (da_cons (dk_nm 2) (da_cons (dk_nm 3) da_nil)))))
      (dss_cons (ds_set (i := 6) nd (de_bin op_plus s_plus (dk_nm 4) (dk_ex (de_comp (own := [("_law_k", 7)]) rfl nd (blkOk_by rfl) (by decide) (di_range1 T.b_range (da_cons (dk_ex (de_bin op_sub s_sub (dk_ex (de_callB call_len_seq s_len T.b_len (da_cons (dk_nm 2) da_nil))) (dk_ex (de_callB call_len_seq s_len T.b_len (da_cons (dk_nm 4) da_nil))))) da_nil)) (fun _ => pg_name (i := 7) nd rfl (by first | exact Or.inl rfl | exact Or.inr rfl)) (gsnd_n (i := 7) (by decide)) (gw_n (i := 7) (by decide)) (fun _ => dts_nil) (fun _ => (de_call (ok__law_take T) (hr.mono (by decide)) T.m__law_take T.F__law_take.kp T.b__law_take takes0N (da_cons (dk_nm 0) (da_cons (dk_ex (de_callB call_len_seq s_len T.b_len (da_cons (dk_ex (de_ix ix_lt s_ix (dk_nm 1) (dk_ex de_int))) da_nil))) da_nil))))))))
      (dss_one (ds_ret (de_tup (da_cons (dk_ex (de_callTy call_tuple_of s_tuple T.b_tuple (da_cons (dk_nm 5) da_nil))) (da_cons (dk_ex (de_callTy call_tuple_of s_tuple T.b_tuple (da_cons (dk_ex (de_rv (dk_nm 6))) da_nil))) da_nil)))))))))
/-! _law_refused_right -/
def m__law_refused_right : MS :=
  mSeq (mSet 4 (mOp oLen [.ex (mOp oIx [.nm 1, .ex (mC (.int 0))])]))
  (mSeq (mSet 5 (mAll oLst [.ex (mAll oTup []), .ex (mFz (mOp (op1 toLst) [.nm 2])), .ex (mOp oPlus [.ex (mSlice (.nm 2) none (some (mOp oNeg [.ex (mC (.int 1))]))), .ex (mAll oTup [.ex (mN 4)])]), .ex (mOp oPlus [.ex (mSlice (.nm 2) none (some (mOp oNeg [.ex (mC (.int 1))]))), .ex (mAll oTup [.ex (mOp oBool [.ex (mOp oIx [.nm 2, .ex (mOp oNeg [.ex (mC (.int 1))])])])])]), .ex (mOp oPlus [.ex (mAll oTup [.ex (mOp oNeg [.ex (mC (.int 1))])]), .ex (mSlice (.nm 2) (some (mC (.int 1))) none)]), .ex (mC .non), .ex (mC (.str "0")), .ex (mC (.int 0))]))
  (mSeq (mExpr (mMut 5 fApp [.ex (mAll oTup [])]))
  (mSeq (mSet 6 (mCall D__law_take [.nm 0, .ex (mOp oLen [.nm 3])]))
  (mSeq (mSet 7 (mOp oIx [.ex (mAll oLst [.ex (mOp oIx [.ex (mOp oIx [.nm 1, .ex (mC (.int 0))]), .ex (mOp oIx [.nm 2, .nm 6])]), .ex (mOp oBool [.ex (mOp oIx [.nm 3, .nm 6])]), .ex (mOp oNeg [.ex (mC (.int 1))]), .ex (mC (.str "0")), .ex (mC .non)]), .ex (mCall D__law_take [.nm 0, .ex (mC (.int 5))])]))
  (mSeq (mSet 8 (mAll oLst [.ex (mFz (mOp (op1 toLst) [.nm 3])), .ex (mOp oPlus [.nm 3, .ex (mAll oTup [.ex (mC (.int 0))])]), .ex (mSlice (.nm 3) none (some (mOp oNeg [.ex (mC (.int 1))]))), .ex (mC .non), .ex (mOp oPlus [.ex (mOp oPlus [.ex (mSlice (.nm 3) none (some (mN 6))), .ex (mAll oTup [.ex (mN 7)])]), .ex (mSlice (.nm 3) (some (mOp oPlus [.nm 6, .ex (mC (.int 1))])) none)]), .ex (mC (.int 0))]))
  (mSeq (mSet 9 (mOp oIx [.nm 5, .ex (mCall D__law_take [.nm 0, .ex (mOp oLen [.nm 5])])]))
  (mSeq (mSet 10 (mOp oIx [.nm 8, .ex (mCall D__law_take [.nm 0, .ex (mOp oLen [.nm 8])])]))
  (mSeq (mSet 11 (mCall D__law_filled [.nm 0, .nm 1, .nm 2, .nm 3]))
  (mSeq (mFor (mRg [.ex (mC (.int 5))]) (gN 12) (mSeq (mIf (mTNot (mB (mCall (D__law_same 4) [.ex (mCall D__law_asked [.nm 12, .nm 1, .nm 9, .nm 3, .nm 11, .ex (mOp (oEq false) [.nm 12, .ex (mC (.int 1))])]), .ex (mAll oLst [.ex (mC (.str "refused")), .ex (mC (.str "tour")), .ex (mOp oNeg [.ex (mC (.int 1))])])]))) (mRet (mC (.bl false))) (mPass))
  (mSeq (mIf (mTNot (mB (mCall (D__law_same 4) [.ex (mCall D__law_asked [.nm 12, .nm 1, .nm 9, .nm 10, .ex (mC .non), .ex (mOp (oEq false) [.nm 12, .ex (mC (.int 2))])]), .ex (mAll oLst [.ex (mC (.str "refused")), .ex (mC (.str "tour")), .ex (mOp oNeg [.ex (mC (.int 1))])])]))) (mRet (mC (.bl false))) (mPass))
  (mIf (mTNot (mB (mCall (D__law_same 4) [.ex (mCall D__law_asked [.nm 12, .nm 1, .nm 2, .nm 10, .ex (mC .non), .ex (mOp (oEq false) [.nm 12, .ex (mC (.int 3))])]), .ex (mAll oLst [.ex (mC (.str "refused")), .ex (mC (.str "view")), .ex (mOp oNeg [.ex (mC (.int 1))])])]))) (mRet (mC (.bl false))) (mPass)))))
  (mRet (mC (.bl true))))))))))))
def D__law_refused_right : List O → FR := fnD [0, 1, 2, 3] 13 m__law_refused_right
theorem sc__law_refused_right : FnScope ["_law_draws_here", "_law_life_here", "_law_tour", "_law_view_here", "_law_many", "_law_tours", "_law_place", "_law_odd", "_law_views", "_law_bad", "_law_other", "_law_paper_here", "_law_which"] ["_law_draws_here", "_law_life_here", "_law_tour", "_law_view_here"] (defScope s__law_refused_right) := ⟨rfl, rfl, rfl, by decide +kernel, rfl, by decide +kernel, by decide +kernel⟩
theorem ok__law_refused_right {P : Program} {w : World} {K : PySem.W.Frag} {mg : Str → Option Value} {base : Heap} {ad : Nat → Addr} {fdn : Nat → FuncData} (T : Txt K mg ad fdn) : FnOk P w K mg base (L2N.CX P w) 9 (ad 44) (fdn 44) ["_law_draws_here", "_law_life_here", "_law_tour", "_law_view_here"] (FP K mg 4 D__law_refused_right) := by
  refine ok_def [0, 1, 2, 3] T.F__law_refused_right sc__law_refused_right fun cdv A outer s H E hr => ?_
  have nd := sc__law_refused_right.nd
  have tk := L2N.takes_of (X := cxOf (L2N.CX P w) P w K mg base ["_law_draws_here", "_law_life_here", "_law_tour", "_law_view_here", "_law_many", "_law_tours", "_law_place", "_law_odd", "_law_views", "_law_bad", "_law_other", "_law_paper_here", "_law_which"] "_law_refused_right" (defScope s__law_refused_right) (ad 44) cdv A outer s H E) rfl rfl rfl rfl
  have po := passes_of (X := cxOf (L2N.CX P w) P w K mg base ["_law_draws_here", "_law_life_here", "_law_tour", "_law_view_here", "_law_many", "_law_tours", "_law_place", "_law_odd", "_law_views", "_law_bad", "_law_other", "_law_paper_here", "_law_which"] "_law_refused_right" (defScope s__law_refused_right) (ad 44) cdv A outer s H E) rfl
  exact (dss_cons (ds_set (i := 4) nd (de_callB call_len_seq s_len T.b_len (da_cons (dk_ex (de_ix ix_lt s_ix (dk_nm 1) (dk_ex de_int))) da_nil)))
      (dss_cons (ds_set (i := 5) nd (de_lst (da_cons (dk_ex (de_tup da_nil)) (da_cons (dk_ex (de_fz (de_callTy call_list_of s_list T.b_list (da_cons (dk_nm 2) da_nil)))) (da_cons (dk_ex (de_bin op_plus s_plus (dk_ex (de_slice (dk_nm 2) dp_none (dp_some (de_un un_neg s_neg (dk_ex de_int))))) (dk_ex (de_tup (da_cons (dk_ex (de_n 4)) da_nil))))) (da_cons (dk_ex (de_bin op_plus s_plus (dk_ex (de_slice (dk_nm 2) dp_none (dp_some (de_un un_neg s_neg (dk_ex de_int))))) (dk_ex (de_tup (da_cons (dk_ex (de_callTy call_bool1 s_bool T.b_bool (da_cons (dk_ex (de_ix ix_lt s_ix (dk_nm 2) (dk_ex (de_un un_neg s_neg (dk_ex de_int))))) da_nil))) da_nil))))) (da_cons (dk_ex (de_bin op_plus s_plus (dk_ex (de_tup (da_cons (dk_ex (de_un un_neg s_neg (dk_ex de_int))) da_nil))) (dk_ex (de_slice (dk_nm 2) (dp_some de_int) dp_none)))) (da_cons (dk_ex de_non) (da_cons (dk_ex de_str) (da_cons (dk_ex de_int) da_nil))))))))))
      (dss_cons (ds_expr (de_mut (i := 5) PySem.F.plainAttrs_list PySem.F.slot_list_append PySem.F.type_list_append mt_append s_app (da_cons (dk_ex (de_tup da_nil)) da_nil)))
      (dss_cons (ds_set (i := 6) nd (de_call (ok__law_take T) (hr.mono (by decide)) T.m__law_take T.F__law_take.kp T.b__law_take tk (da_cons (dk_nm 0) (da_cons (dk_ex (de_callB call_len_seq s_len T.b_len (da_cons (dk_nm 3) da_nil))) da_nil))))
      (dss_cons (ds_set (i := 7) nd (de_ix ix_lt s_ix (dk_ex (de_lst (da_cons (dk_ex (de_ix ix_lt s_ix (dk_ex (de_ix ix_lt s_ix (dk_nm 1) (dk_ex de_int))) (dk_ex (de_ix ix_lt s_ix (dk_nm 2) (dk_nm 6))))) (da_cons (dk_ex (de_callTy call_bool1 s_bool T.b_bool (da_cons (dk_ex (de_ix ix_lt s_ix (dk_nm 3) (dk_nm 6))) da_nil))) (da_cons (dk_ex (de_un un_neg s_neg (dk_ex de_int))) (da_cons (dk_ex de_str) (da_cons (dk_ex de_non) da_nil))))))) (dk_ex (de_call (ok__law_take T) (hr.mono (by decide)) T.m__law_take T.F__law_take.kp T.b__law_take tk (da_cons (dk_nm 0) (da_cons (dk_ex de_int) da_nil))))))
      (dss_cons (ds_set (i := 8) nd (de_lst (da_cons (dk_ex (de_fz (de_callTy call_list_of s_list T.b_list (da_cons (dk_nm 3) da_nil)))) (da_cons (dk_ex (de_bin op_plus s_plus (dk_nm 3) (dk_ex (de_tup (da_cons (dk_ex de_int) da_nil))))) (da_cons (dk_ex (de_slice (dk_nm 3) dp_none (dp_some (de_un un_neg s_neg (dk_ex de_int))))) (da_cons (dk_ex de_non) (da_cons (dk_ex (de_bin op_plus s_plus (dk_ex (de_bin op_plus s_plus (dk_ex (de_slice (dk_nm 3) dp_none (dp_some (de_n 6)))) (dk_ex (de_tup (da_cons (dk_ex (de_n 7)) da_nil))))) (dk_ex (de_slice (dk_nm 3) (dp_some (de_bin op_plus s_plus (dk_nm 6) (dk_ex de_int))) dp_none)))) (da_cons (dk_ex de_int) da_nil))))))))
      (dss_cons (ds_set (i := 9) nd (de_ix ix_lt s_ix (dk_nm 5) (dk_ex (de_call (ok__law_take T) (hr.mono (by decide)) T.m__law_take T.F__law_take.kp T.b__law_take tk (da_cons (dk_nm 0) (da_cons (dk_ex (de_callB call_len_seq s_len T.b_len (da_cons (dk_nm 5) da_nil))) da_nil))))))
      (dss_cons (ds_set (i := 10) nd (de_ix ix_lt s_ix (dk_nm 8) (dk_ex (de_call (ok__law_take T) (hr.mono (by decide)) T.m__law_take T.F__law_take.kp T.b__law_take tk (da_cons (dk_nm 0) (da_cons (dk_ex (de_callB call_len_seq s_len T.b_len (da_cons (dk_nm 8) da_nil))) da_nil))))))
      (dss_cons (ds_set (i := 11) nd (de_call (ok__law_filled T) (hr.mono (by decide)) T.m__law_filled T.F__law_filled.kp T.b__law_filled tk (da_cons (dk_nm 0) (da_cons (dk_nm 1) (da_cons (dk_nm 2) (da_cons (dk_nm 3) da_nil))))))
      (dss_cons (ds_for po rfl (di_range1 T.b_range (da_cons (dk_ex de_int) da_nil)) (dg_n (i := 12) nd) (dss_cons (ds_if (dt_not (dt_val (de_call (ok__law_same T 4) (hr.mono (by decide)) T.m__law_same T.F__law_same.kp T.b__law_same tk (da_cons (dk_ex (de_call (ok__law_asked T) (hr.mono (by decide)) T.m__law_asked T.F__law_asked.kp T.b__law_asked tk (da_cons (dk_nm 12) (da_cons (dk_nm 1) (da_cons (dk_nm 9) (da_cons (dk_nm 3) (da_cons (dk_nm 11) (da_cons (dk_ex (de_cmp (op_eqD hr.units) s_eq (dk_nm 12) (dk_ex de_int))) da_nil)))))))) (da_cons (dk_ex (de_lst (da_cons (dk_ex de_str) (da_cons (dk_ex de_str) (da_cons (dk_ex (de_un un_neg s_neg (dk_ex de_int))) da_nil))))) da_nil))))) (dss_one (ds_ret de_bl)) dss_nil)
      (dss_cons (ds_if (dt_not (dt_val (de_call (ok__law_same T 4) (hr.mono (by decide)) T.m__law_same T.F__law_same.kp T.b__law_same tk (da_cons (dk_ex (de_call (ok__law_asked T) (hr.mono (by decide)) T.m__law_asked T.F__law_asked.kp T.b__law_asked tk (da_cons (dk_nm 12) (da_cons (dk_nm 1) (da_cons (dk_nm 9) (da_cons (dk_nm 10) (da_cons (dk_ex de_non) (da_cons (dk_ex (de_cmp (op_eqD hr.units) s_eq (dk_nm 12) (dk_ex de_int))) da_nil)))))))) (da_cons (dk_ex (de_lst (da_cons (dk_ex de_str) (da_cons (dk_ex de_str) (da_cons (dk_ex (de_un un_neg s_neg (dk_ex de_int))) da_nil))))) da_nil))))) (dss_one (ds_ret de_bl)) dss_nil)
      (dss_one (ds_if (dt_not (dt_val (de_call (ok__law_same T 4) (hr.mono (by decide)) T.m__law_same T.F__law_same.kp T.b__law_same tk (da_cons (dk_ex (de_call (ok__law_asked T) (hr.mono (by decide)) T.m__law_asked T.F__law_asked.kp T.b__law_asked tk (da_cons (dk_nm 12) (da_cons (dk_nm 1) (da_cons (dk_nm 2) (da_cons (dk_nm 10) (da_cons (dk_ex de_non) (da_cons (dk_ex (de_cmp (op_eqD hr.units) s_eq (dk_nm 12) (dk_ex de_int))) da_nil)))))))) (da_cons (dk_ex (de_lst (da_cons (dk_ex de_str) (da_cons (dk_ex de_str) (da_cons (dk_ex (de_un un_neg s_neg (dk_ex de_int))) da_nil))))) da_nil))))) (dss_one (ds_ret de_bl)) dss_nil)))))
      (dss_one (ds_ret de_bl))))))))))))
/-! _law_view_right -/
def m__law_view_right : MS :=
  mSeq (mSet 4 (mCall D__law_early [.nm 1, .nm 2, .nm 3]))
  (mSeq (mSet 5 (mCall D__law_late [.nm 1, .nm 2, .nm 3]))
  (mSeq (mSet 6 (mAll oLst [.ex (mN 4), .ex (mN 5), .ex (mFz (mCall D__law_span [.nm 1, .nm 2, .nm 3])), .ex (mAll oTup [.ex (mN 4), .ex (mN 5)])]))
  (mSeq (mIf (mB (mOp (oIsi "list") [.nm 4])) (mPut 6 (mN 4) (.ex (mC (.int 3)))) (mPass))
  (mSeq (mSet 7 (mOp (oEq false) [.ex (mCall D__law_take [.nm 0, .ex (mC (.int 5))]), .ex (mC (.int 0))]))
  (mSeq (mFor (mRg [.ex (mC (.int 4))]) (gN 8) (mIf (mTNot (mB (mCall (D__law_same 4) [.ex (mCall D__law_asked [.nm 8, .nm 1, .nm 2, .nm 3, .ex (mC .non), .nm 7]), .ex (mOp oIx [.nm 6, .nm 8])]))) (mRet (mC (.bl false))) (mPass)))
  (mSeq (mSet 9 (mCall D__law_filled [.nm 0, .nm 1, .nm 2, .nm 3]))
  (mSeq (mSet 10 (mCall D__law_filled [.nm 0, .nm 1, .nm 2, .ex (mCall D__law_view [.nm 0, .nm 1, .nm 2])]))
  (mSeq (mSet 11 (mOp oPlus [.ex (mAll oLst [.ex (mN 9)]), .ex (mComp (mRg [.ex (mC (.int 5))]) [13] (gN 13) (mYes) (mCall D__law_thing [.nm 0, .nm 1, .nm 9, .nm 10]))]))
  (mSeq (mFor (mIt itS (mN 11)) (gN 12) (mIf (mTNot (mB (mCall (D__law_same 4) [.ex (mCall D__law_asked [.ex (mC (.int 4)), .nm 1, .nm 2, .nm 3, .nm 12, .nm 7]), .ex (mCall D__law_paper [.nm 1, .nm 2, .nm 3, .nm 12])]))) (mRet (mC (.bl false))) (mPass)))
  (mRet (mC (.bl true))))))))))))
def D__law_view_right : List O → FR := fnD [0, 1, 2, 3] 14 m__law_view_right
theorem sc__law_view_right : FnScope ["_law_draws_here", "_law_life_here", "_law_tour", "_law_view_here", "_law_early_here", "_law_late_here", "_law_dues", "_law_named", "_law_which", "_law_pair", "_law_other", "_law_things", "_law_thing_here", "_law_k"] ["_law_draws_here", "_law_life_here", "_law_tour", "_law_view_here"] (defScope s__law_view_right) := ⟨rfl, rfl, rfl, by decide +kernel, rfl, by decide +kernel, by decide +kernel⟩
theorem ok__law_view_right {P : Program} {w : World} {K : PySem.W.Frag} {mg : Str → Option Value} {base : Heap} {ad : Nat → Addr} {fdn : Nat → FuncData} (T : Txt K mg ad fdn) : FnOk P w K mg base (L2N.CX P w) 9 (ad 45) (fdn 45) ["_law_draws_here", "_law_life_here", "_law_tour", "_law_view_here"] (FP K mg 4 D__law_view_right) := by
  refine ok_def [0, 1, 2, 3] T.F__law_view_right sc__law_view_right fun cdv A outer s H E hr => ?_
  have nd := sc__law_view_right.nd
  have tk := L2N.takes_of (X := cxOf (L2N.CX P w) P w K mg base ["_law_draws_here", "_law_life_here", "_law_tour", "_law_view_here", "_law_early_here", "_law_late_here", "_law_dues", "_law_named", "_law_which", "_law_pair", "_law_other", "_law_things", "_law_thing_here", "_law_k"] "_law_view_right" (defScope s__law_view_right) (ad 45) cdv A outer s H E) rfl rfl rfl rfl
  have po := passes_of (X := cxOf (L2N.CX P w) P w K mg base ["_law_draws_here", "_law_life_here", "_law_tour", "_law_view_here", "_law_early_here", "_law_late_here", "_law_dues", "_law_named", "_law_which", "_law_pair", "_law_other", "_law_things", "_law_thing_here", "_law_k"] "_law_view_right" (defScope s__law_view_right) (ad 45) cdv A outer s H E) rfl
  exact (dss_cons (ds_set (i := 4) nd (de_call (ok__law_early T) (hr.mono (by decide)) T.m__law_early T.F__law_early.kp T.b__law_early tk (da_cons (dk_nm 1) (da_cons (dk_nm 2) (da_cons (dk_nm 3) da_nil)))))
      (dss_cons (ds_set (i := 5) nd (de_call (ok__law_late T) (hr.mono (by decide)) T.m__law_late T.F__law_late.kp T.b__law_late tk (da_cons (dk_nm 1) (da_cons (dk_nm 2) (da_cons (dk_nm 3) da_nil)))))
      (dss_cons (ds_set (i := 6) nd (de_lst (da_cons (dk_ex (de_n 4)) (da_cons (dk_ex (de_n 5)) (da_cons (dk_ex (de_fz (de_call (ok__law_span T) (hr.mono (by decide)) T.m__law_span T.F__law_span.kp T.b__law_span tk (da_cons (dk_nm 1) (da_cons (dk_nm 2) (da_cons (dk_nm 3) da_nil)))))) (da_cons (dk_ex (de_tup (da_cons (dk_ex (de_n 4)) (da_cons (dk_ex (de_n 5)) da_nil)))) da_nil))))))
      (dss_cons (ds_if (dt_val (de_isi (T := "list") T.b_isinstance T.b_list (dk_nm 4))) (dss_one (ds_put (i := 6) (de_n 4) (dk_ex de_int))) dss_nil)
      (dss_cons (ds_set (i := 7) nd (de_cmp (op_eqD hr.units) s_eq (dk_ex (de_call (ok__law_take T) (hr.mono (by decide)) T.m__law_take T.F__law_take.kp T.b__law_take tk (da_cons (dk_nm 0) (da_cons (dk_ex de_int) da_nil)))) (dk_ex de_int)))
      (dss_cons (ds_for po rfl (di_range1 T.b_range (da_cons (dk_ex de_int) da_nil)) (dg_n (i := 8) nd) (dss_one (ds_if (dt_not (dt_val (de_call (ok__law_same T 4) (hr.mono (by decide)) T.m__law_same T.F__law_same.kp T.b__law_same tk (da_cons (dk_ex (de_call (ok__law_asked T) (hr.mono (by decide)) T.m__law_asked T.F__law_asked.kp T.b__law_asked tk (da_cons (dk_nm 8) (da_cons (dk_nm 1) (da_cons (dk_nm 2) (da_cons (dk_nm 3) (da_cons (dk_ex de_non) (da_cons (dk_nm 7) da_nil)))))))) (da_cons (dk_ex (de_ix ix_lt s_ix (dk_nm 6) (dk_nm 8))) da_nil))))) (dss_one (ds_ret de_bl)) dss_nil)))
      (dss_cons (ds_set (i := 9) nd (de_call (ok__law_filled T) (hr.mono (by decide)) T.m__law_filled T.F__law_filled.kp T.b__law_filled tk (da_cons (dk_nm 0) (da_cons (dk_nm 1) (da_cons (dk_nm 2) (da_cons (dk_nm 3) da_nil))))))
      (dss_cons (ds_set (i := 10) nd (de_call (ok__law_filled T) (hr.mono (by decide)) T.m__law_filled T.F__law_filled.kp T.b__law_filled tk (da_cons (dk_nm 0) (da_cons (dk_nm 1) (da_cons (dk_nm 2) (da_cons (dk_ex (de_call (ok__law_view T) (hr.mono (by decide)) T.m__law_view T.F__law_view.kp T.b__law_view tk (da_cons (dk_nm 0) (da_cons (dk_nm 1) (da_cons (dk_nm 2) da_nil))))) da_nil))))))
      (dss_cons (ds_set (i := 11) nd (de_bin op_plus s_plus (dk_ex (de_lst (da_cons (dk_ex (de_n 9)) da_nil))) (dk_ex (de_comp (own := [("_law_k", 13)]) rfl nd (blkOk_by rfl) (by decide) (di_range1 T.b_range (da_cons (dk_ex de_int) da_nil)) (fun _ => pg_name (i := 13) nd rfl (by first | exact Or.inl rfl | exact Or.inr rfl)) (gsnd_n (i := 13) (by decide)) (gw_n (i := 13) (by decide)) (fun _ => dts_nil) (fun _ => (de_call (ok__law_thing T) (hr.mono (by decide)) T.m__law_thing T.F__law_thing.kp T.b__law_thing takes0N (da_cons (dk_nm 0) (da_cons (dk_nm 1) (da_cons (dk_nm 9) (da_cons (dk_nm 10) da_nil))))))))))
      (dss_cons (ds_for po rfl (di_seq (de_n 11)) (dg_n (i := 12) nd) (dss_one (ds_if (dt_not (dt_val (de_call (ok__law_same T 4) (hr.mono (by decide)) T.m__law_same T.F__law_same.kp T.b__law_same tk (da_cons (dk_ex (de_call (ok__law_asked T) (hr.mono (by decide)) T.m__law_asked T.F__law_asked.kp T.b__law_asked tk (da_cons (dk_ex de_int) (da_cons (dk_nm 1) (da_cons (dk_nm 2) (da_cons (dk_nm 3) (da_cons (dk_nm 12) (da_cons (dk_nm 7) da_nil)))))))) (da_cons (dk_ex (de_call (ok__law_paper T) (hr.mono (by decide)) T.m__law_paper T.F__law_paper.kp T.b__law_paper tk (da_cons (dk_nm 1) (da_cons (dk_nm 2) (da_cons (dk_nm 3) (da_cons (dk_nm 12) da_nil)))))) da_nil))))) (dss_one (ds_ret de_bl)) dss_nil)))
      (dss_one (ds_ret de_bl))))))))))))
/-! law -/
def m_law : MS :=
  mSeq (mSet 1 (mCall D__law_draws [.nm 0]))
  (mSeq (mUnp (mCall D__law_life [.nm 1]) (gT [gN 2, gN 3]))
  (mSeq (mSet 4 (mAll oTup [.ex (mC (.int 0))]))
  (mSeq (mFor (mRg [.ex (mC (.int 4))]) (gN 5) (mSeq (mSet 4 (mCall D__law_view [.nm 1, .nm 2, .nm 3]))
  (mIf (mTNot (mB (mCall D__law_view_right [.nm 1, .nm 2, .nm 3, .nm 4]))) (mRet (mC (.bl false))) (mPass))))
  (mRet (mCall D__law_refused_right [.nm 1, .nm 2, .nm 3, .nm 4])))))
def D_law : List O → FR := fnD [0] 6 m_law
theorem sc_law : FnScope ["_law_script", "_law_draws_here", "_law_life_here", "_law_tour", "_law_view_here", "_law_k"] ["_law_script"] (defScope s_law) := ⟨rfl, rfl, rfl, by decide +kernel, rfl, by decide +kernel, by decide +kernel⟩
theorem ok_law {P : Program} {w : World} {K : PySem.W.Frag} {mg : Str → Option Value} {base : Heap} {ad : Nat → Addr} {fdn : Nat → FuncData} (T : Txt K mg ad fdn) : FnOk P w K mg base (L2N.CX P w) 10 (ad 46) (fdn 46) ["_law_script"] (FP K mg 1 D_law) := by
  refine ok_def [0] T.F_law sc_law fun cdv A outer s H E hr => ?_
  have nd := sc_law.nd
  have tk := L2N.takes_of (X := cxOf (L2N.CX P w) P w K mg base ["_law_script", "_law_draws_here", "_law_life_here", "_law_tour", "_law_view_here", "_law_k"] "law" (defScope s_law) (ad 46) cdv A outer s H E) rfl rfl rfl rfl
  have po := passes_of (X := cxOf (L2N.CX P w) P w K mg base ["_law_script", "_law_draws_here", "_law_life_here", "_law_tour", "_law_view_here", "_law_k"] "law" (defScope s_law) (ad 46) cdv A outer s H E) rfl
  exact (dss_cons (ds_set (i := 1) nd (de_call (ok__law_draws T) (hr.mono (by decide)) T.m__law_draws T.F__law_draws.kp T.b__law_draws tk (da_cons (dk_nm 0) da_nil)))
      (dss_cons (ds_unp (de_call (ok__law_life T) (hr.mono (by decide)) T.m__law_life T.F__law_life.kp T.b__law_life tk (da_cons (dk_nm 1) da_nil)) (dg_t rfl (dgs_cons (dg_n (i := 2) nd) (dgs_cons (dg_n (i := 3) nd) dgs_nil))))
      (dss_cons (ds_set (i := 4) nd (de_tup (da_cons (dk_ex de_int) da_nil)))
      (dss_cons (ds_for po rfl (di_range1 T.b_range (da_cons (dk_ex de_int) da_nil)) (dg_n (i := 5) nd) (dss_cons (ds_set (i := 4) nd (de_call (ok__law_view T) (hr.mono (by decide)) T.m__law_view T.F__law_view.kp T.b__law_view tk (da_cons (dk_nm 1) (da_cons (dk_nm 2) (da_cons (dk_nm 3) da_nil)))))
      (dss_one (ds_if (dt_not (dt_val (de_call (ok__law_view_right T) (hr.mono (by decide)) T.m__law_view_right T.F__law_view_right.kp T.b__law_view_right tk (da_cons (dk_nm 1) (da_cons (dk_nm 2) (da_cons (dk_nm 3) (da_cons (dk_nm 4) da_nil))))))) (dss_one (ds_ret de_bl)) dss_nil))))
      (dss_one (ds_ret (de_call (ok__law_refused_right T) (hr.mono (by decide)) T.m__law_refused_right T.F__law_refused_right.kp T.b__law_refused_right tk (da_cons (dk_nm 1) (da_cons (dk_nm 2) (da_cons (dk_nm 3) (da_cons (dk_nm 4) da_nil)))))))))))
end K24
end
section
set_option Elab.async false
set_option linter.all false
set_option maxRecDepth 100000
set_option maxHeartbeats 4000000
/-! Dn25: what worths come to, by simp. -/
namespace Dn
open PySem PySem.Spec L2 L2H
open PyProof.Rows hiding St
section
@[simp] theorem mC_e (x : D) (e : Env) : mC x e = .ok (.d x) e := (rfl)
/-! ints as data -/
def I (ns : List Int) : List D := ns.map D.int
abbrev T (ns : List Int) : O := .d (.tup (I ns))
abbrev L (ns : List Int) : O := .l ((I ns).map O.d)
abbrev F (ns : List Int) : O := .d (.lst (I ns))
abbrev N (i : Int) : O := .d (.int i)
@[simp] theorem I_nil : I [] = [] := (rfl)
@[simp] theorem I_cons (n : Int) (r : List Int) : I (n :: r) = .int n :: I r := (rfl)
@[simp] theorem I_len (ns : List Int) : (I ns).length = ns.length := List.length_map _
@[simp] theorem I_empty (ns : List Int) : (I ns).isEmpty = ns.isEmpty := by cases ns <;> rfl
@[simp] theorem I_get (ns : List Int) (k : Nat) : (I ns)[k]? = ns[k]?.map D.int := List.getElem?_map
@[simp] theorem I_dropLast (ns : List Int) : (I ns).dropLast = I ns.dropLast := (List.map_dropLast).symm
@[simp] theorem I_take (ns : List Int) (k : Nat) : (I ns).take k = I (ns.take k) := List.map_take.symm
@[simp] theorem I_drop (ns : List Int) (k : Nat) : (I ns).drop k = I (ns.drop k) := List.map_drop.symm
@[simp] theorem I_reverse (ns : List Int) : (I ns).reverse = I ns.reverse := List.map_reverse.symm
@[simp] theorem I_app (a b : List Int) : I a ++ I b = I (a ++ b) := List.map_append.symm
@[simp] theorem L_snoc (a : List Int) (i : Int) : (I a).map O.d ++ [N i] = (I (a ++ [i])).map O.d := by simp [I]
def Bs (bs : List Bool) : List D := bs.map D.bl
@[simp] theorem dBools_Bs : ∀ bs : List Bool, dBools (Bs bs) = some bs
  | [] => (rfl)
  | b :: r => by
    show (dBools (Bs r)).map (b :: ·) = _
    rw [dBools_Bs r]
    rfl
@[simp] theorem L_nil : L [] = .l [] := (rfl)
@[simp] theorem L_one (i : Int) : L [i] = .l [.d (.int i)] := (rfl)
@[simp] theorem T_one (i : Int) : T [i] = .d (.tup [.int i]) := (rfl)
@[simp] theorem T_nil : T [] = .d (.tup []) := (rfl)
@[simp] theorem F_nil : F [] = .d (.lst []) := (rfl)
@[simp] theorem dInts_I (ns : List Int) : dInts (I ns) = some ns := dInts_map ns
@[simp] theorem allD_I (ns : List Int) : allD ((I ns).map O.d) = some (I ns) := allD_map _
theorem I_mem {ns : List Int} {x : D} (h : x ∈ I ns) : ∃ i ∈ ns, x = .int i := by
  obtain ⟨i, hi, e⟩ := List.mem_map.mp h
  exact ⟨i, hi, e.symm⟩
/-! the steps of a worth, each a function of what came before -/
def gE (i : Nat) (e : Env) : Option (Option O) → Rs O
  | some (some (.d x)) => .ok (.d x) e
  | some (some (.l os)) => .ok (.d (.lst (frzs os))) (e.set i (some (.d (.lst (frzs os)))))
  | _ => .fail
@[simp] theorem gE_d (i : Nat) (e : Env) (x : D) : gE i e (some (some (.d x))) = .ok (.d x) e := (rfl)
@[simp] theorem gE_l (i : Nat) (e : Env) (os : List O) : gE i e (some (some (.l os))) = .ok (.d (.lst (frzs os))) (e.set i (some (.d (.lst (frzs os))))) := (rfl)
@[simp] theorem mN_e (i : Nat) (e : Env) : mN i e = gE i e e[i]? := by
  unfold mN gE
  try (generalize e[i]? = z; rcases z with _ | (_ | (x | os | xs)) <;> rfl)
def mvE (i : Nat) (e : Env) : Option (Option O) → Rs O
  | some (some (.d x)) => .ok (.d x) e
  | some (some (.l os)) => .ok (.l os) (e.set i none)
  | some (some (.t xs)) => .ok (.t xs) (e.set i none)
  | _ => .fail
@[simp] theorem mvE_d (i : Nat) (e : Env) (x : D) : mvE i e (some (some (.d x))) = .ok (.d x) e := (rfl)
@[simp] theorem mvE_l (i : Nat) (e : Env) (x : List O) : mvE i e (some (some (.l x))) = .ok (.l x) (e.set i none) := (rfl)
@[simp] theorem mvE_t (i : Nat) (e : Env) (x : List D) : mvE i e (some (some (.t x))) = .ok (.t x) (e.set i none) := (rfl)
@[simp] theorem mMv_e (i : Nat) (e : Env) : mMv i e = mvE i e e[i]? := by
  unfold mMv mvE
  try (generalize e[i]? = z; rcases z with _ | (_ | (x | os | xs)) <;> rfl)
def nmK (e : Env) : Option (Option O) → Rs (Option O)
  | some (some _) => .ok none e
  | _ => .fail
@[simp] theorem nmK_s (e : Env) (o : O) : nmK e (some (some o)) = .ok none e := (rfl)
@[simp] theorem evalK_nm (i : Nat) (e : Env) : evalK (.nm i) e = nmK e e[i]? := by
  simp only [evalK, nmK]
  try (generalize e[i]? = z; rcases z with _ | (_ | (x | os | xs)) <;> rfl)
def exK : Rs O → Rs (Option O)
  | .ok o e => .ok (some o) e
  | .exc x e => .exc x e
  | .fail => .fail
@[simp] theorem exK_ok (o : O) (e : Env) : exK (.ok o e) = .ok (some o) e := (rfl)
@[simp] theorem exK_exc (o : Exc) (e : Env) : exK (.exc o e) = .exc o e := (rfl)
@[simp] theorem evalK_ex (m : ME) (e : Env) : evalK (.ex m) e = exK (m e) := by
  simp only [evalK]
  cases m e <;> rfl
@[simp] theorem evalA_nil (e : Env) : evalA [] e = .ok [] e := (rfl)
def snocA (c : Option O) : Rs (List (Option O)) → Rs (List (Option O))
  | .ok cs e => .ok (c :: cs) e
  | .exc x e => .exc x e
  | .fail => .fail
@[simp] theorem snocA_ok (c : Option O) (cs : List (Option O)) (e : Env) : snocA c (.ok cs e) = .ok (c :: cs) e := (rfl)
@[simp] theorem snocA_exc (c : Option O) (x : Exc) (e : Env) : snocA c (.exc x e) = .exc x e := (rfl)
def consA (ks : List AK) : Rs (Option O) → Rs (List (Option O))
  | .ok c e => snocA c (evalA ks e)
  | .exc x e => .exc x e
  | .fail => .fail
@[simp] theorem consA_ok (ks : List AK) (c : Option O) (e : Env) : consA ks (.ok c e) = snocA c (evalA ks e) := (rfl)
@[simp] theorem consA_exc (ks : List AK) (x : Exc) (e : Env) : consA ks (.exc x e) = .exc x e := (rfl)
@[simp] theorem evalA_cons (k : AK) (ks : List AK) (e : Env) : evalA (k :: ks) e = consA ks (evalK k e) := by
  simp only [evalA]
  cases evalK k e with
  | ok c e1 =>
    simp only [consA]
    cases evalA ks e1 <;> rfl
  | _ => rfl
@[simp] theorem resK_nm (i : Nat) (c : Option O) (e : Env) : resK (.nm i) c e = (e[i]?).join := (rfl)
@[simp] theorem resK_ex (m : ME) (c : Option O) (e : Env) : resK (.ex m) c e = c := (rfl)
@[simp] theorem resA_nil (cs : List (Option O)) (e : Env) : resA [] cs e = some [] := (rfl)
def consO : Option O → Option (List O) → Option (List O)
  | some o, some os => some (o :: os)
  | _, _ => none
@[simp] theorem consO_s (o : O) (os : List O) : consO (some o) (some os) = some (o :: os) := (rfl)
@[simp] theorem resA_cons (k : AK) (ks : List AK) (c : Option O) (cs : List (Option O)) (e : Env) : resA (k :: ks) (c :: cs) e = consO (resK k c e) (resA ks cs e) := by
  show (match resK k c e, resA ks cs e with
    | some o, some os => some (o :: os)
    | _, _ => none) = _
  cases resK k c e <;> cases resA ks cs e <;> rfl
@[simp] theorem allS_nil : allS [] = some [] := (rfl)
@[simp] theorem allS_cons (o : O) (r : List (Option O)) : allS (some o :: r) = (allS r).map (o :: ·) := (rfl)
def opO (e : Env) : Option O → Rs O
  | some o => .ok o e
  | none => .fail
@[simp] theorem opO_s (e : Env) (o : O) : opO e (some o) = .ok o e := (rfl)
def opR (op : List O → Option O) (e : Env) : Option (List O) → Rs O
  | some os => opO e (op os)
  | none => .fail
@[simp] theorem opR_s (op : List O → Option O) (e : Env) (os : List O) : opR op e (some os) = opO e (op os) := (rfl)
def opA (op : List O → Option O) (ks : List AK) : Rs (List (Option O)) → Rs O
  | .ok cs e => opR op e (resA ks cs e)
  | .exc x e => .exc x e
  | .fail => .fail
@[simp] theorem opA_ok (op : List O → Option O) (ks : List AK) (cs : List (Option O)) (e : Env) : opA op ks (.ok cs e) = opR op e (resA ks cs e) := (rfl)
@[simp] theorem opA_exc (op : List O → Option O) (ks : List AK) (x : Exc) (e : Env) : opA op ks (.exc x e) = .exc x e := (rfl)
@[simp] theorem mOp_e (op : List O → Option O) (ks : List AK) (env : Env) : mOp op ks env = opA op ks (evalA ks env) := by
  simp only [mOp]
  cases evalA ks env with
  | ok cs e =>
    simp only [opA]
    cases resA ks cs e with
    | none => rfl
    | some os => 
      simp only [opR]
      cases op os <;> rfl
  | _ => rfl
def allA (op : List O → Option O) : Rs (List (Option O)) → Rs O
  | .ok cs e => opR op e (allS cs)
  | .exc x e => .exc x e
  | .fail => .fail
@[simp] theorem allA_ok (op : List O → Option O) (cs : List (Option O)) (e : Env) : allA op (.ok cs e) = opR op e (allS cs) := (rfl)
@[simp] theorem allA_exc (op : List O → Option O) (x : Exc) (e : Env) : allA op (.exc x e) = .exc x e := (rfl)
@[simp] theorem mAll_e (f : List O → Option O) (ks : List AK) (env : Env) : mAll f ks env = allA f (evalA ks env) := by
  simp only [mAll]
  cases evalA ks env with
  | ok cs e =>
    simp only [allA]
    cases allS cs with
    | none => rfl
    | some os =>
      simp only [opR]
      cases f os <;> rfl
  | _ => rfl
@[simp] theorem lendA_nil (cs : List (Option O)) (e : Env) : lendA [] cs e = some ([], e) := (rfl)
def lendN (i : Nat) (ks : List AK) (cs : List (Option O)) (e : Env) : Option (Option O) → Option (List O × Env)
  | some (some (.d x)) => (lendA ks cs e).map fun p => (.d x :: p.1, p.2)
  | some (some (.l l)) => (lendA ks cs (e.set i none)).map fun p => (.l l :: p.1, p.2)
  | _ => none
@[simp] theorem lendN_d (i : Nat) (ks : List AK) (cs : List (Option O)) (e : Env) (x : D) : lendN i ks cs e (some (some (.d x))) = (lendA ks cs e).map fun p => (.d x :: p.1, p.2) := (rfl)
@[simp] theorem lendN_l (i : Nat) (ks : List AK) (cs : List (Option O)) (e : Env) (l : List O) : lendN i ks cs e (some (some (.l l))) = (lendA ks cs (e.set i none)).map fun p => (.l l :: p.1, p.2) := (rfl)
@[simp] theorem lendA_nm (i : Nat) (ks : List AK) (c : Option O) (cs : List (Option O)) (e : Env) : lendA (.nm i :: ks) (c :: cs) e = lendN i ks cs e e[i]? := by
  simp only [lendA, lendN, List.tail_cons]
  try (generalize e[i]? = z; rcases z with _ | (_ | (x | os | xs)) <;> rfl)
@[simp] theorem lendA_ex (m : ME) (ks : List AK) (o : O) (cs : List (Option O)) (e : Env) : lendA (.ex m :: ks) (some o :: cs) e = (lendA ks cs e).map fun p => (o :: p.1, p.2) := (rfl)
@[simp] theorem backA_nil (as e e' : Env) : backA [] as e e' = e' := (rfl)
def backN (i : Nat) (ks : List AK) (a : Option O) (as e e' : Env) : Option (Option O) → Env
  | some (some (.l _)) => match a with
    | some o => backA ks as e (e'.set i (some o))
    | none => backA ks as e e'
  | _ => backA ks as e e'
@[simp] theorem backN_d (i : Nat) (ks : List AK) (a : Option O) (as e e' : Env) (x : D) : backN i ks a as e e' (some (some (.d x))) = backA ks as e e' := (rfl)
@[simp] theorem backN_l (i : Nat) (ks : List AK) (a : O) (as e e' : Env) (x : List O) : backN i ks (some a) as e e' (some (some (.l x))) = backA ks as e (e'.set i (some a)) := (rfl)
@[simp] theorem backA_nm (i : Nat) (ks : List AK) (a : Option O) (as e e' : Env) : backA (.nm i :: ks) (a :: as) e e' = backN i ks a as e e' e[i]? := by
  simp only [backA, backN, List.tail_cons, List.headD_cons]
  try (generalize e[i]? = z; rcases z with _ | (_ | (x | os | xs)) <;> rfl)
@[simp] theorem backA_ex (m : ME) (ks : List AK) (as e e' : Env) : backA (.ex m :: ks) as e e' = backA ks as.tail e e' := (rfl)
def callF (ks : List AK) (e e' : Env) : FR → Rs O
  | .ok o as => .ok o (backA ks as e e')
  | .exc x as => .exc x (backA ks as e e')
  | .fail => .fail
@[simp] theorem callF_ok (ks : List AK) (e e' as : Env) (o : O) : callF ks e e' (.ok o as) = .ok o (backA ks as e e') := (rfl)
@[simp] theorem callF_exc (ks : List AK) (e e' as : Env) (o : Exc) : callF ks e e' (.exc o as) = .exc o (backA ks as e e') := (rfl)
def callL (f : List O → FR) (ks : List AK) (e : Env) : Option (List O × Env) → Rs O
  | some p => callF ks e p.2 (f p.1)
  | none => .fail
@[simp] theorem callL_s (f : List O → FR) (ks : List AK) (e : Env) (p : List O × Env) : callL f ks e (some p) = callF ks e p.2 (f p.1) := (rfl)
def callA (f : List O → FR) (ks : List AK) : Rs (List (Option O)) → Rs O
  | .ok cs e => callL f ks e (lendA ks cs e)
  | .exc x e => .exc x e
  | .fail => .fail
@[simp] theorem callA_ok (f : List O → FR) (ks : List AK) (cs : List (Option O)) (e : Env) : callA f ks (.ok cs e) = callL f ks e (lendA ks cs e) := (rfl)
@[simp] theorem callA_exc (f : List O → FR) (ks : List AK) (x : Exc) (e : Env) : callA f ks (.exc x e) = .exc x e := (rfl)
@[simp] theorem mCall_e (f : List O → FR) (ks : List AK) (env : Env) : mCall f ks env = callA f ks (evalA ks env) := by
  simp only [mCall]
  cases evalA ks env with
  | ok cs e =>
    simp only [callA]
    cases lendA ks cs e with
    | none => rfl
    | some p =>
      obtain ⟨os, e'⟩ := p
      simp only [callL]
      cases f os <;> rfl
  | _ => rfl
@[simp] theorem mPass_e (e : Env) : mPass e = .nx e := (rfl)
def seqE (b : MS) : SR → SR
  | .nx e => b e
  | r => r
@[simp] theorem seqE_nx (b : MS) (e : Env) : seqE b (.nx e) = b e := (rfl)
@[simp] theorem seqE_rt (b : MS) (o : O) (e : Env) : seqE b (.rt o e) = .rt o e := (rfl)
@[simp] theorem seqE_exc (b : MS) (o : Exc) (e : Env) : seqE b (.exc o e) = .exc o e := (rfl)
@[simp] theorem seqE_bk (b : MS) (e : Env) : seqE b (.bk e) = .bk e := (rfl)
@[simp] theorem seqE_ct (b : MS) (e : Env) : seqE b (.ct e) = .ct e := (rfl)
@[simp] theorem mSeq_e (a b : MS) (e : Env) : mSeq a b e = seqE b (a e) := by
  simp only [mSeq]
  cases a e <;> rfl
def setE (i : Nat) : Rs O → SR
  | .ok o e => if i < e.length then .nx (e.set i (some o)) else .fail
  | .exc x e => .exc x e
  | .fail => .fail
@[simp] theorem setE_ok (i : Nat) (o : O) (e : Env) : setE i (.ok o e) = if i < e.length then .nx (e.set i (some o)) else .fail := (rfl)
@[simp] theorem setE_exc (i : Nat) (o : Exc) (e : Env) : setE i (.exc o e) = .exc o e := (rfl)
@[simp] theorem mSet_e (i : Nat) (m : ME) (e : Env) : mSet i m e = setE i (m e) := by
  simp only [mSet]
  cases m e <;> rfl
def retE : Rs O → SR
  | .ok o e => .rt o e
  | .exc x e => .exc x e
  | .fail => .fail
@[simp] theorem retE_ok (o : O) (e : Env) : retE (.ok o e) = .rt o e := (rfl)
@[simp] theorem retE_exc (o : Exc) (e : Env) : retE (.exc o e) = .exc o e := (rfl)
@[simp] theorem mRet_e (m : ME) (e : Env) : mRet m e = retE (m e) := by
  simp only [mRet]
  cases m e <;> rfl
@[simp] theorem mRetN_e (e : Env) : mRetN e = .rt (.d .non) e := (rfl)
def exprE : Rs O → SR
  | .ok _ e => .nx e
  | .exc x e => .exc x e
  | .fail => .fail
@[simp] theorem exprE_ok (o : O) (e : Env) : exprE (.ok o e) = .nx e := (rfl)
@[simp] theorem exprE_exc (o : Exc) (e : Env) : exprE (.exc o e) = .exc o e := (rfl)
@[simp] theorem mExpr_e (m : ME) (e : Env) : mExpr m e = exprE (m e) := by
  simp only [mExpr]
  cases m e <;> rfl
def ifE (a b : MS) : Rs Bool → SR
  | .ok true e => a e
  | .ok false e => b e
  | .exc x e => .exc x e
  | .fail => .fail
@[simp] theorem ifE_t (a b : MS) (e : Env) : ifE a b (.ok true e) = a e := (rfl)
@[simp] theorem ifE_f (a b : MS) (e : Env) : ifE a b (.ok false e) = b e := (rfl)
@[simp] theorem ifE_exc (a b : MS) (x : Exc) (e : Env) : ifE a b (.exc x e) = .exc x e := (rfl)
@[simp] theorem mIf_e (c : Env → Rs Bool) (a b : MS) (e : Env) : mIf c a b e = ifE a b (c e) := by
  simp only [mIf]
  cases c e with
  | ok t e1 => cases t <;> rfl
  | _ => rfl
def ifEE (a b : ME) : Rs Bool → Rs O
  | .ok true e => a e
  | .ok false e => b e
  | .exc x e => .exc x e
  | .fail => .fail
@[simp] theorem ifEE_t (a b : ME) (e : Env) : ifEE a b (.ok true e) = a e := (rfl)
@[simp] theorem ifEE_f (a b : ME) (e : Env) : ifEE a b (.ok false e) = b e := (rfl)
@[simp] theorem mIfE_e (c : Env → Rs Bool) (a b : ME) (e : Env) : mIfE c a b e = ifEE a b (c e) := by
  simp only [mIfE]
  cases c e with
  | ok t e1 => cases t <;> rfl
  | _ => rfl
@[simp] theorem gN_e (i : Nat) (e : Env) (x : D) : gN i e x = if i < e.length then some (e.set i (some (.d x))) else none := (rfl)
@[simp] theorem gT_tup (gs : List MG) (e : Env) (xs : List D) : gT gs e (.tup xs) = gsT gs e xs := (rfl)
@[simp] theorem gsT_nil (e : Env) : gsT [] e [] = some e := (rfl)
def gsB (gs : List MG) (xs : List D) : Option Env → Option Env
  | some e => gsT gs e xs
  | none => none
@[simp] theorem gsB_s (gs : List MG) (xs : List D) (e : Env) : gsB gs xs (some e) = gsT gs e xs := (rfl)
@[simp] theorem gsT_cons (g : MG) (gs : List MG) (e : Env) (x : D) (xs : List D) : gsT (g :: gs) e (x :: xs) = gsB gs xs (g e x) := by
  show (g e x).bind _ = _
  cases g e x <;> rfl
def forE (g : MG) (b : MS) : Rs (List D) → SR
  | .ok xs e => forL g b xs e
  | .exc x e => .exc x e
  | .fail => .fail
@[simp] theorem forE_ok (g : MG) (b : MS) (xs : List D) (e : Env) : forE g b (.ok xs e) = forL g b xs e := (rfl)
@[simp] theorem forE_exc (g : MG) (b : MS) (x : Exc) (e : Env) : forE g b (.exc x e) = .exc x e := (rfl)
@[simp] theorem mFor_e (it : Env → Rs (List D)) (g : MG) (b : MS) (e : Env) : mFor it g b e = forE g b (it e) := by
  simp only [mFor]
  cases it e <;> rfl
@[simp] theorem forL_nil (g : MG) (b : MS) (e : Env) : forL g b [] e = .nx e := (rfl)
def forB (g : MG) (b : MS) (xs : List D) : SR → SR
  | .nx e2 => forL g b xs e2
  | .ct e2 => forL g b xs e2
  | .bk e2 => .nx e2
  | r => r
@[simp] theorem forB_nx (g : MG) (b : MS) (xs : List D) (e : Env) : forB g b xs (.nx e) = forL g b xs e := (rfl)
@[simp] theorem forB_ct (g : MG) (b : MS) (xs : List D) (e : Env) : forB g b xs (.ct e) = forL g b xs e := (rfl)
@[simp] theorem forB_bk (g : MG) (b : MS) (xs : List D) (e : Env) : forB g b xs (.bk e) = .nx e := (rfl)
@[simp] theorem forB_rt (g : MG) (b : MS) (xs : List D) (o : O) (e : Env) : forB g b xs (.rt o e) = .rt o e := (rfl)
@[simp] theorem forB_exc (g : MG) (b : MS) (xs : List D) (o : Exc) (e : Env) : forB g b xs (.exc o e) = .exc o e := (rfl)
def forG (g : MG) (b : MS) (xs : List D) : Option Env → SR
  | some e1 => forB g b xs (b e1)
  | none => .fail
@[simp] theorem forG_s (g : MG) (b : MS) (xs : List D) (e : Env) : forG g b xs (some e) = forB g b xs (b e) := (rfl)
theorem forL_cons (g : MG) (b : MS) (x : D) (xs : List D) (e : Env) : forL g b (x :: xs) e = forG g b xs (g e x) := by
  simp only [forL]
  cases g e x with
  | none => rfl
  | some e1 =>
    simp only [forG]
    cases b e1 <;> rfl
def unpG : Option Env → SR
  | some e => .nx e
  | none => .fail
@[simp] theorem unpG_s (e : Env) : unpG (some e) = .nx e := (rfl)
def unpE (g : MG) : Rs O → SR
  | .ok (.d x) e => unpG (g e x)
  | .ok _ _ => .fail
  | .exc x e => .exc x e
  | .fail => .fail
@[simp] theorem unpE_d (g : MG) (x : D) (e : Env) : unpE g (.ok (.d x) e) = unpG (g e x) := (rfl)
@[simp] theorem unpE_exc (g : MG) (x : Exc) (e : Env) : unpE g (.exc x e) = .exc x e := (rfl)
@[simp] theorem mUnp_e (m : ME) (g : MG) (e : Env) : mUnp m g e = unpE g (m e) := by
  simp only [mUnp]
  cases m e with
  | ok o e1 =>
    cases o with
    | d x =>
      simp only [onE, unpE]
      cases g e1 x <;> rfl
    | _ => rfl
  | _ => rfl
def itB (e : Env) : Option (List D) → Rs (List D)
  | some xs => .ok xs e
  | none => .fail
@[simp] theorem itB_s (e : Env) (xs : List D) : itB e (some xs) = .ok xs e := (rfl)
def itA (f : D → Option (List D)) : Rs O → Rs (List D)
  | .ok o e => itB e (f (frz o))
  | .exc x e => .exc x e
  | .fail => .fail
@[simp] theorem itA_ok (f : D → Option (List D)) (o : O) (e : Env) : itA f (.ok o e) = itB e (f (frz o)) := (rfl)
@[simp] theorem itA_exc (f : D → Option (List D)) (o : Exc) (e : Env) : itA f (.exc o e) = .exc o e := (rfl)
@[simp] theorem mIt_e (f : D → Option (List D)) (m : ME) (e : Env) : mIt f m e = itA f (m e) := by
  simp only [mIt]
  cases m e with
  | ok o e1 =>
    simp only [itA]
    cases f (frz o) <;> rfl
  | _ => rfl
@[simp] theorem itS_tup (xs : List D) : itS (.tup xs) = some xs := (rfl)
@[simp] theorem itS_lst (xs : List D) : itS (.lst xs) = some xs := (rfl)
@[simp] theorem itS_scr (xs : List D) : itS (.scr xs) = some xs := (rfl)
@[simp] theorem itEn_tup (xs : List D) : itEn (.tup xs) = some (numD 0 xs) := (rfl)
@[simp] theorem itEn_lst (xs : List D) : itEn (.lst xs) = some (numD 0 xs) := (rfl)
@[simp] theorem itEn_scr (xs : List D) : itEn (.scr xs) = some (numD 0 xs) := (rfl)
@[simp] theorem frz_d (x : D) : frz (.d x) = x := (rfl)
@[simp] theorem frz_l (os : List O) : frz (.l os) = .lst (frzs os) := (rfl)
@[simp] theorem frz_t (xs : List D) : frz (.t xs) = .tup xs := (rfl)
@[simp] theorem frzs_nil : frzs [] = [] := (rfl)
@[simp] theorem frzs_cons (o : O) (os : List O) : frzs (o :: os) = frz o :: frzs os := (rfl)
@[simp] theorem frzs_map : ∀ xs : List D, frzs (xs.map O.d) = xs
  | [] => rfl
  | x :: r => congrArg (x :: ·) (frzs_map r)
@[simp] theorem asI_int (i : Int) : asI (.d (.int i)) = some i := (rfl)
@[simp] theorem tt2_e (i j : Int) : tt2 i j = true := (rfl)
@[simp] theorem fI2_e (C : Int → Int → Bool) (g : Int → Int → D) (i j : Int) : fI2 C g [.d (.int i), .d (.int j)] = if C i j then some (.d (g i j)) else none := (rfl)
@[simp] theorem oPlus_int (i j : Int) : oPlus [.d (.int i), .d (.int j)] = some (.d (.int (i + j))) := (rfl)
@[simp] theorem oNeg_int (i : Int) : oNeg [.d (.int i)] = some (.d (.int (-i))) := (rfl)
@[simp] theorem op1_e (f : O → Option O) (o : O) : op1 f [o] = f o := (rfl)
@[simp] theorem oIsN_e (neg : Bool) (a : O) : oIsN neg [a, .d .non] = some (.d (.bl (if neg then !isN a else isN a))) := (rfl)
@[simp] theorem isN_non : isN (.d .non) = true := (rfl)
@[simp] theorem isN_bl (b : Bool) : isN (.d (.bl b)) = false := (rfl)
@[simp] theorem isN_int (b : Int) : isN (.d (.int b)) = false := (rfl)
@[simp] theorem isN_str (b : Str) : isN (.d (.str b)) = false := (rfl)
@[simp] theorem isN_tup (b : List D) : isN (.d (.tup b)) = false := (rfl)
@[simp] theorem isN_lst (b : List D) : isN (.d (.lst b)) = false := (rfl)
@[simp] theorem isN_l (b : List O) : isN (.l b) = false := (rfl)
@[simp] theorem isN_t (b : List D) : isN (.t b) = false := (rfl)
def andE (b : ME) : Rs O → Rs O
  | .ok (.d (.bl true)) e => b e
  | .ok (.d (.bl false)) e => .ok (.d (.bl false)) e
  | .ok _ _ => .fail
  | .exc x e => .exc x e
  | .fail => .fail
@[simp] theorem andE_t (b : ME) (e : Env) : andE b (.ok (.d (.bl true)) e) = b e := (rfl)
@[simp] theorem andE_f (b : ME) (e : Env) : andE b (.ok (.d (.bl false)) e) = .ok (.d (.bl false)) e := (rfl)
@[simp] theorem mAnd_e (a b : ME) (e : Env) : mAnd a b e = andE b (a e) := by
  simp only [mAnd, onB]
  cases a e with
  | ok o e1 =>
    cases o with
    | d x =>
      cases x with
      | bl c => cases c <;> rfl
      | _ => rfl
    | _ => rfl
  | _ => rfl
def orE (b : ME) : Rs O → Rs O
  | .ok (.d (.bl true)) e => .ok (.d (.bl true)) e
  | .ok (.d (.bl false)) e => b e
  | .ok _ _ => .fail
  | .exc x e => .exc x e
  | .fail => .fail
@[simp] theorem orE_t (b : ME) (e : Env) : orE b (.ok (.d (.bl true)) e) = .ok (.d (.bl true)) e := (rfl)
@[simp] theorem orE_f (b : ME) (e : Env) : orE b (.ok (.d (.bl false)) e) = b e := (rfl)
@[simp] theorem mOr_e (a b : ME) (e : Env) : mOr a b e = orE b (a e) := by
  simp only [mOr, onB]
  cases a e with
  | ok o e1 =>
    cases o with
    | d x =>
      cases x with
      | bl c => cases c <;> rfl
      | _ => rfl
    | _ => rfl
  | _ => rfl
def notE : Rs O → Rs O
  | .ok (.d (.bl c)) e => .ok (.d (.bl (!c))) e
  | .ok _ _ => .fail
  | .exc x e => .exc x e
  | .fail => .fail
@[simp] theorem notE_b (c : Bool) (e : Env) : notE (.ok (.d (.bl c)) e) = .ok (.d (.bl (!c))) e := (rfl)
@[simp] theorem mNot_e (a : ME) (e : Env) : mNot a e = notE (a e) := by
  simp only [mNot, onB]
  cases a e with
  | ok o e1 =>
    cases o with
    | d x => cases x <;> rfl
    | _ => rfl
  | _ => rfl
def bE : Rs O → Rs Bool
  | .ok (.d (.bl c)) e => .ok c e
  | .ok _ _ => .fail
  | .exc x e => .exc x e
  | .fail => .fail
@[simp] theorem bE_b (c : Bool) (e : Env) : bE (.ok (.d (.bl c)) e) = .ok c e := (rfl)
@[simp] theorem bE_exc (c : Exc) (e : Env) : bE (.exc c e) = .exc c e := (rfl)
@[simp] theorem mB_e (m : ME) (e : Env) : mB m e = bE (m e) := by
  simp only [mB]
  cases m e with
  | ok o e1 =>
    cases o with
    | d x => cases x <;> rfl
    | _ => rfl
  | _ => rfl
def notT : Rs Bool → Rs Bool
  | .ok c e => .ok (!c) e
  | .exc x e => .exc x e
  | .fail => .fail
@[simp] theorem notT_b (c : Bool) (e : Env) : notT (.ok c e) = .ok (!c) e := (rfl)
@[simp] theorem notT_exc (c : Exc) (e : Env) : notT (.exc c e) = .exc c e := (rfl)
@[simp] theorem mTNot_e (m : Env → Rs Bool) (e : Env) : mTNot m e = notT (m e) := by
  simp only [mTNot]
  cases m e <;> rfl
def andT (b : Env → Rs Bool) : Rs Bool → Rs Bool
  | .ok true e => b e
  | .ok false e => .ok false e
  | .exc x e => .exc x e
  | .fail => .fail
@[simp] theorem andT_t (b : Env → Rs Bool) (e : Env) : andT b (.ok true e) = b e := (rfl)
@[simp] theorem andT_f (b : Env → Rs Bool) (e : Env) : andT b (.ok false e) = .ok false e := (rfl)
@[simp] theorem mTAnd_e (a b : Env → Rs Bool) (e : Env) : mTAnd a b e = andT b (a e) := by
  simp only [mTAnd]
  cases a e with
  | ok c e1 => cases c <;> rfl
  | _ => rfl
def orT (b : Env → Rs Bool) : Rs Bool → Rs Bool
  | .ok true e => .ok true e
  | .ok false e => b e
  | .exc x e => .exc x e
  | .fail => .fail
@[simp] theorem orT_t (b : Env → Rs Bool) (e : Env) : orT b (.ok true e) = .ok true e := (rfl)
@[simp] theorem orT_f (b : Env → Rs Bool) (e : Env) : orT b (.ok false e) = b e := (rfl)
@[simp] theorem mTOr_e (a b : Env → Rs Bool) (e : Env) : mTOr a b e = orT b (a e) := by
  simp only [mTOr]
  cases a e with
  | ok c e1 => cases c <;> rfl
  | _ => rfl
def truB (e : Env) : Option Bool → Rs Bool
  | some b => .ok b e
  | none => .fail
@[simp] theorem truB_s (e : Env) (b : Bool) : truB e (some b) = .ok b e := (rfl)
def truR (e : Env) : Option (List O) → Rs Bool
  | some [o] => truB e (truO o)
  | _ => .fail
@[simp] theorem truR_s (e : Env) (o : O) : truR e (some [o]) = truB e (truO o) := (rfl)
def truA (k : AK) : Rs (List (Option O)) → Rs Bool
  | .ok cs e => truR e (resA [k] cs e)
  | .exc x e => .exc x e
  | .fail => .fail
@[simp] theorem truA_ok (k : AK) (cs : List (Option O)) (e : Env) : truA k (.ok cs e) = truR e (resA [k] cs e) := (rfl)
@[simp] theorem mTru_e (k : AK) (env : Env) : mTru k env = truA k (evalA [k] env) := by
  simp only [mTru]
  cases evalA [k] env with
  | ok cs e =>
    simp only [truA]
    split
    · rename_i o h
      rw [h]
      simp only [truR]
      cases truO o <;> rfl
    · rename_i h
      cases q : resA [k] cs e with
      | none => rfl
      | some os =>
        match os with
        | [] => rfl
        | [o] => exact absurd q (h o)
        | _ :: _ :: _ => rfl
  | _ => rfl
@[simp] theorem truO_tup (xs : List D) : truO (.d (.tup xs)) = some (!xs.isEmpty) := (rfl)
@[simp] theorem truO_lst (xs : List D) : truO (.d (.lst xs)) = some (!xs.isEmpty) := (rfl)
@[simp] theorem truO_l (xs : List O) : truO (.l xs) = some (!xs.isEmpty) := (rfl)
@[simp] theorem truO_int (i : Int) : truO (.d (.int i)) = some (i != 0) := (rfl)
@[simp] theorem truO_bl (i : Bool) : truO (.d (.bl i)) = some i := (rfl)
@[simp] theorem truO_non : truO (.d .non) = some false := (rfl)
@[simp] theorem lenO_tup (xs : List D) : lenO (.d (.tup xs)) = some xs.length := (rfl)
@[simp] theorem lenO_lst (xs : List D) : lenO (.d (.lst xs)) = some xs.length := (rfl)
@[simp] theorem lenO_scr (xs : List D) : lenO (.d (.scr xs)) = some xs.length := (rfl)
@[simp] theorem lenO_l (xs : List O) : lenO (.l xs) = some xs.length := (rfl)
@[simp] theorem asIB_int (i : Int) : asIB (.d (.int i)) = some i := (rfl)
@[simp] theorem asIB_bl (b : Bool) : asIB (.d (.bl b)) = some (if b then 1 else 0) := (rfl)
@[simp] theorem toTup_l (xs : List D) : toTup (.l (xs.map O.d)) = some (.d (.tup xs)) := by
  show (allD (xs.map O.d)).map (fun xs => O.d (.tup xs)) = _
  rw [allD_map]
  rfl
@[simp] theorem toTup_lst (xs : List D) : toTup (.d (.lst xs)) = some (.d (.tup xs)) := (rfl)
@[simp] theorem toTup_tup (xs : List D) : toTup (.d (.tup xs)) = some (.d (.tup xs)) := (rfl)
@[simp] theorem toTupN_l (xs : List D) : toTupN (.l (xs.map O.d)) = some (.t xs) := by
  show (allD (xs.map O.d)).map O.t = _
  rw [allD_map]
  rfl
@[simp] theorem toLst_tup (xs : List D) : toLst (.d (.tup xs)) = some (.l (xs.map O.d)) := (rfl)
@[simp] theorem toLst_lst (xs : List D) : toLst (.d (.lst xs)) = some (.l (xs.map O.d)) := (rfl)
@[simp] theorem lstF_l (xs : List D) : lstF (.l (xs.map O.d)) = some xs := allD_map xs
@[simp] theorem lstF_lst (xs : List D) : lstF (.d (.lst xs)) = some xs := (rfl)
@[simp] theorem lstF_tup (xs : List D) : lstF (.d (.tup xs)) = none := (rfl)
@[simp] theorem lstF_t (xs : List D) : lstF (.t xs) = none := (rfl)
@[simp] theorem tupF_tup (xs : List D) : tupF (.d (.tup xs)) = some xs := (rfl)
@[simp] theorem tupF_t (xs : List D) : tupF (.t xs) = some xs := (rfl)
@[simp] theorem tupF_lst (xs : List D) : tupF (.d (.lst xs)) = none := (rfl)
@[simp] theorem tupF_l (xs : List O) : tupF (.l xs) = none := (rfl)
@[simp] theorem tupN_t (xs : List D) : tupN (.t xs) = some xs := (rfl)
@[simp] theorem tupN_d (x : D) : tupN (.d x) = none := (rfl)
@[simp] theorem tupN_l (x : List O) : tupN (.l x) = none := (rfl)
@[simp] theorem seqF_tup (xs : List D) : seqF (.d (.tup xs)) = some xs := (rfl)
@[simp] theorem seqF_t (xs : List D) : seqF (.t xs) = some xs := (rfl)
@[simp] theorem seqF_lst (xs : List D) : seqF (.d (.lst xs)) = some xs := (rfl)
@[simp] theorem seqF_l (xs : List D) : seqF (.l (xs.map O.d)) = some xs := allD_map xs
@[simp] theorem dInts_m (ns : List Int) : dInts (ns.map D.int) = some ns := dInts_map ns
@[simp] theorem dBools_m : ∀ ns : List Bool, dBools (ns.map D.bl) = some ns
  | [] => rfl
  | b :: r => by
    show (dBools (r.map D.bl)).map (b :: ·) = _
    rw [dBools_m r]
    rfl
@[simp] theorem atO_tup (xs : List D) (i : Int) : atO (.d (.tup xs)) i = atI xs i := (rfl)
@[simp] theorem atO_lst (xs : List D) (i : Int) : atO (.d (.lst xs)) i = atI xs i := (rfl)
@[simp] theorem atO_scr (xs : List D) (i : Int) : atO (.d (.scr xs)) i = atI xs i := (rfl)
@[simp] theorem atI_nat {α : Type} (xs : List α) (i : Nat) : atI xs (i : Int) = xs[i]? := by
  unfold atI ixN
  by_cases h : i < xs.length
  · rw [if_pos (by omega), if_pos (by omega)]
    simp
  · rw [if_pos (by omega), if_neg (by omega)]
    simp at h ⊢
    exact h
@[simp] theorem atI_lit {α : Type} (xs : List α) (n : Nat) : atI xs (no_index (OfNat.ofNat n) : Int) = xs[n]? := atI_nat xs n
theorem atI_of {α : Type} {xs : List α} {i : Int} {x : α} (h0 : 0 ≤ i) (h : xs[i.toNat]? = some x) : atI xs i = some x := by
  obtain ⟨n, rfl⟩ := Int.eq_ofNat_of_zero_le h0
  rw [atI_nat]
  simpa using h
@[simp] theorem atO_l (xs : List D) (i : Int) : atO (.l (xs.map O.d)) i = atI xs i := by
  show (match atI (xs.map O.d) i with
    | some (.d x) => some x
    | _ => none) = _
  unfold atI
  rw [List.length_map]
  cases ixN xs.length i with
  | none => rfl
  | some j =>
    show (match (xs.map O.d)[j]? with
      | some (.d x) => some x
      | _ => none) = xs[j]?
    rw [List.getElem?_map]
    cases xs[j]? <;> rfl
@[simp] theorem oIx_e (a : O) (i : Int) : oIx [a, .d (.int i)] = (atO a i).map O.d := (rfl)
@[simp] theorem oTup_e (os : List O) : oTup os = if os.length ≤ line then some (.d (.tup (frzs os))) else none := (rfl)
@[simp] theorem oLst_e (os : List O) : oLst os = if os.length ≤ line then some (.l os) else none := (rfl)
@[simp] theorem line_e : line = 16777216 := (rfl)
def dnE : Rs O → Rs O
  | .ok o e => .ok (dnO o) e
  | r => r
@[simp] theorem dnE_ok (o : O) (e : Env) : dnE (.ok o e) = .ok (dnO o) e := (rfl)
@[simp] theorem dnE_exc (o : Exc) (e : Env) : dnE (.exc o e) = .exc o e := (rfl)
@[simp] theorem mDn_e (m : ME) (env : Env) : mDn m env = dnE (m env) := by
  simp only [mDn]
  cases m env <;> rfl
@[simp] theorem dnO_t (xs : List D) : dnO (.t xs) = .d (.tup xs) := (rfl)
@[simp] theorem dnO_d (x : D) : dnO (.d x) = .d x := (rfl)
@[simp] theorem dnO_l (x : List O) : dnO (.l x) = .l x := (rfl)
def rgB (xs : List D) (e : Env) : Bool → Rs (List D)
  | true => .ok xs e
  | false => .fail
@[simp] theorem rgB_t (xs : List D) (e : Env) : rgB xs e true = .ok xs e := (rfl)
def rg1 (e : Env) : O → Rs (List D)
  | .d (.int n) => rgB (rgD 0 n.toNat) e (rgOk n)
  | _ => .fail
def rg2 (e : Env) : O → O → Rs (List D)
  | .d (.int i), .d (.int j) => rgB (rgD i (j - i).toNat) e (rgOk i && rgOk j)
  | _, _ => .fail
def rgR (e : Env) : Option (List O) → Rs (List D)
  | some [a] => rg1 e a
  | some [a, b] => rg2 e a b
  | _ => .fail
@[simp] theorem rgR_1 (e : Env) (n : Int) : rgR e (some [.d (.int n)]) = rgB (rgD 0 n.toNat) e (rgOk n) := (rfl)
@[simp] theorem rgR_2 (e : Env) (i j : Int) : rgR e (some [.d (.int i), .d (.int j)]) = rgB (rgD i (j - i).toNat) e (rgOk i && rgOk j) := (rfl)
def rgA (ks : List AK) : Rs (List (Option O)) → Rs (List D)
  | .ok cs e => rgR e (resA ks cs e)
  | .exc x e => .exc x e
  | .fail => .fail
@[simp] theorem rgA_ok (ks : List AK) (cs : List (Option O)) (e : Env) : rgA ks (.ok cs e) = rgR e (resA ks cs e) := (rfl)
@[simp] theorem rgA_exc (ks : List AK) (x : Exc) (e : Env) : rgA ks (.exc x e) = .exc x e := (rfl)
@[simp] theorem mRg_e (ks : List AK) (env : Env) : mRg ks env = rgA ks (evalA ks env) := by
  simp only [mRg]
  cases evalA ks env with
  | ok cs e =>
    simp only [rgA]
    cases resA ks cs e with
    | none => rfl
    | some os =>
      match os with
      | [] => rfl
      | [a] =>
        cases a with
        | d x =>
          cases x with
          | int n =>
            simp only [asI, rgR, rg1]
            cases rgOk n <;> rfl
          | _ => rfl
        | _ => rfl
      | [a, b] =>
        cases a with
        | d x =>
          cases x with
          | int n =>
            cases b with
            | d y =>
              cases y with
              | int m =>
                simp only [asI, rgR, rg2]
                cases (rgOk n && rgOk m) <;> rfl
              | _ => rfl
            | _ => rfl
          | _ => rfl
        | _ => rfl
      | _ :: _ :: _ :: _ => rfl
  | _ => rfl
@[simp] theorem rgOk_e (i : Int) : rgOk i = decide (-(2 ^ 62) ≤ i ∧ i < 2 ^ 62) := (rfl)
def compB : Rs (List O) → Rs O
  | .ok acc e => .ok (.l acc) e
  | _ => .fail
@[simp] theorem compB_ok (acc : List O) (e : Env) : compB (.ok acc e) = .ok (.l acc) e := (rfl)
def compA (vs : List Nat) (g : MG) (c : Env → Rs Bool) (m : ME) : Rs (List D) → Rs O
  | .ok xs e => compB (compL vs g c m xs (clr e vs) [])
  | .exc x e => .exc x e
  | .fail => .fail
@[simp] theorem compA_ok (vs : List Nat) (g : MG) (c : Env → Rs Bool) (m : ME) (xs : List D) (e : Env) : compA vs g c m (.ok xs e) = compB (compL vs g c m xs (clr e vs) []) := (rfl)
@[simp] theorem mComp_e (it : Env → Rs (List D)) (vs : List Nat) (g : MG) (c : Env → Rs Bool) (m : ME) (env : Env) : mComp it vs g c m env = compA vs g c m (it env) := by
  simp only [mComp]
  cases it env with
  | ok xs e =>
    simp only [compA]
    cases compL vs g c m xs (clr e vs) [] <;> rfl
  | _ => rfl
@[simp] theorem clr_nil (e : Env) : clr e [] = e := (rfl)
@[simp] theorem clr_cons (e : Env) (v : Nat) (vs : List Nat) : clr e (v :: vs) = (clr e vs).set v none := (rfl)
@[simp] theorem mYes_e (e : Env) : mYes e = .ok true e := (rfl)
@[simp] theorem compL_nil (vs : List Nat) (g : MG) (c : Env → Rs Bool) (m : ME) (e : Env) (acc : List O) : compL vs g c m [] e acc = .ok acc e := (rfl)
def compI (vs : List Nat) (g : MG) (c : Env → Rs Bool) (m : ME) (xs : List D) (acc : List O) : Rs O → Rs (List O)
  | .ok o e3 => if acc.length < 16000000 then compL vs g c m xs (clr e3 vs) (acc ++ [o]) else .fail
  | _ => .fail
@[simp] theorem compI_ok (vs : List Nat) (g : MG) (c : Env → Rs Bool) (m : ME) (xs : List D) (acc : List O) (o : O) (e : Env) : compI vs g c m xs acc (.ok o e) = if acc.length < 16000000 then compL vs g c m xs (clr e vs) (acc ++ [o]) else .fail := (rfl)
def compC (vs : List Nat) (g : MG) (c : Env → Rs Bool) (m : ME) (xs : List D) (acc : List O) : Rs Bool → Rs (List O)
  | .ok true e => compI vs g c m xs acc (m e)
  | .ok false e => compL vs g c m xs (clr e vs) acc
  | _ => .fail
@[simp] theorem compC_t (vs : List Nat) (g : MG) (c : Env → Rs Bool) (m : ME) (xs : List D) (acc : List O) (e : Env) : compC vs g c m xs acc (.ok true e) = compI vs g c m xs acc (m e) := (rfl)
@[simp] theorem compC_f (vs : List Nat) (g : MG) (c : Env → Rs Bool) (m : ME) (xs : List D) (acc : List O) (e : Env) : compC vs g c m xs acc (.ok false e) = compL vs g c m xs (clr e vs) acc := (rfl)
def compG (vs : List Nat) (g : MG) (c : Env → Rs Bool) (m : ME) (xs : List D) (acc : List O) : Option Env → Rs (List O)
  | some e => compC vs g c m xs acc (c e)
  | none => .fail
@[simp] theorem compG_s (vs : List Nat) (g : MG) (c : Env → Rs Bool) (m : ME) (xs : List D) (acc : List O) (e : Env) : compG vs g c m xs acc (some e) = compC vs g c m xs acc (c e) := (rfl)
theorem compL_cons (vs : List Nat) (g : MG) (c : Env → Rs Bool) (m : ME) (x : D) (xs : List D) (e : Env) (acc : List O) : compL vs g c m (x :: xs) e acc = compG vs g c m xs acc (g e x) := by
  simp only [compL]
  cases g e x with
  | none => rfl
  | some e1 =>
    simp only [compG]
    cases c e1 with
    | ok t e2 =>
      cases t with
      | true =>
        simp only [compC]
        cases m e2 <;> rfl
      | false => rfl
    | _ => rfl
/-- a comprehension that changes nothing beside its names -/
theorem compL_pure {vs : List Nat} {g : MG} {c : Env → Rs Bool} {m : ME} {e : Env} (f : D → Option D) : ∀ (xs : List D) (acc : List O),
    (∀ x ∈ xs, ∃ e1, g e x = some e1 ∧ ((∃ o e2 e3, c e1 = .ok true e2 ∧ m e2 = .ok (.d o) e3 ∧ f x = some o ∧ clr e3 vs = e) ∨ ∃ e2, c e1 = .ok false e2 ∧ f x = none ∧ clr e2 vs = e)) →
    acc.length + xs.length ≤ 16000000 → compL vs g c m xs e acc = .ok (acc ++ (xs.filterMap f).map O.d) e
  | [], acc, _, _ => by simp
  | x :: xs, acc, h, hl => by
    rw [List.length_cons] at hl
    rw [compL_cons]
    obtain ⟨e1, h1, h2⟩ := h x List.mem_cons_self
    have hr : ∀ y ∈ xs, _ := fun y hy => h y (List.mem_cons_of_mem _ hy)
    rcases h2 with ⟨o, e2, e3, h2, h3, h4, h5⟩ | ⟨e2, h2, h4, h5⟩
    · simp only [h1, h2, h3, compG_s, compC_t, compI_ok]
      rw [if_pos (by omega), h5, compL_pure f xs (acc ++ [O.d o]) hr (by rw [List.length_append, List.length_singleton]; omega), List.filterMap_cons, h4]
      simp
    · simp only [h1, h2, compG_s, compC_f]
      rw [h5, compL_pure f xs acc hr (by omega), List.filterMap_cons, h4]
theorem compL_map {vs : List Nat} {g : MG} {c : Env → Rs Bool} {m : ME} {e : Env} (f : D → D) (xs : List D)
    (h : ∀ x ∈ xs, ∃ e1 e2 e3, g e x = some e1 ∧ c e1 = .ok true e2 ∧ m e2 = .ok (.d (f x)) e3 ∧ clr e3 vs = e)
    (hl : xs.length ≤ 16000000) : compL vs g c m xs e [] = .ok ((xs.map f).map O.d) e := by
  have := compL_pure (vs := vs) (g := g) (c := c) (m := m) (e := e) (fun x => some (f x)) xs [] (fun x hx => by
    obtain ⟨e1, e2, e3, h1, h2, h3, h4⟩ := h x hx
    exact ⟨e1, h1, .inl ⟨f x, e2, e3, h2, h3, rfl, h4⟩⟩) (by simpa using hl)
  rw [this]
  simp
def raiseR (cls : Str) (ns : List Str) (e : Env) : Option (List O) → SR
  | some os => .exc ⟨cls, (ns.zip (frzs os)).reverse⟩ e
  | none => .fail
@[simp] theorem raiseR_s (cls : Str) (ns : List Str) (e : Env) (os : List O) : raiseR cls ns e (some os) = .exc ⟨cls, (ns.zip (frzs os)).reverse⟩ e := (rfl)
def raiseA (cls : Str) (ns : List Str) : Rs (List (Option O)) → SR
  | .ok cs e => raiseR cls ns e (allS cs)
  | .exc x e => .exc x e
  | .fail => .fail
@[simp] theorem raiseA_ok (cls : Str) (ns : List Str) (cs : List (Option O)) (e : Env) : raiseA cls ns (.ok cs e) = raiseR cls ns e (allS cs) := (rfl)
@[simp] theorem mRaise_e (cls : Str) (ns : List Str) (ks : List AK) (env : Env) : mRaise cls ns ks env = raiseA cls ns (evalA ks env) := by
  simp only [mRaise]
  cases evalA ks env with
  | ok cs e =>
    simp only [raiseA]
    cases allS cs <;> rfl
  | _ => rfl
@[simp] theorem finE_nx (i : Nat) (e : Env) : finE i (.nx e) = .nx (e.set i none) := (rfl)
@[simp] theorem finE_rt (i : Nat) (o : O) (e : Env) : finE i (.rt o e) = .rt o (e.set i none) := (rfl)
def tryF (i : Nat) : SR → SR
  | .exc _ _ => .fail
  | r => finE i r
@[simp] theorem tryF_nx (i : Nat) (e : Env) : tryF i (.nx e) = .nx (e.set i none) := (rfl)
@[simp] theorem tryF_rt (i : Nat) (o : O) (e : Env) : tryF i (.rt o e) = .rt o (e.set i none) := (rfl)
def tryC (i : Nat) (h : Exc → MS) (x : Exc) (e : Env) : Option Bool → SR
  | some true => if i < e.length then tryF i (h x (e.set i none)) else .fail
  | some false => .exc x e
  | none => .fail
@[simp] theorem tryC_t (i : Nat) (h : Exc → MS) (x : Exc) (e : Env) : tryC i h x e (some true) = if i < e.length then tryF i (h x (e.set i none)) else .fail := (rfl)
@[simp] theorem tryC_f (i : Nat) (h : Exc → MS) (x : Exc) (e : Env) : tryC i h x e (some false) = .exc x e := (rfl)
def tryA (catches : Str → Option Bool) (i : Nat) (h : Exc → MS) : SR → SR
  | .exc x e => tryC i h x e (catches x.cls)
  | r => r
@[simp] theorem tryA_exc (catches : Str → Option Bool) (i : Nat) (h : Exc → MS) (x : Exc) (e : Env) : tryA catches i h (.exc x e) = tryC i h x e (catches x.cls) := (rfl)
@[simp] theorem tryA_nx (catches : Str → Option Bool) (i : Nat) (h : Exc → MS) (e : Env) : tryA catches i h (.nx e) = .nx e := (rfl)
@[simp] theorem tryA_rt (catches : Str → Option Bool) (i : Nat) (h : Exc → MS) (o : O) (e : Env) : tryA catches i h (.rt o e) = .rt o e := (rfl)
@[simp] theorem mTry_e (catches : Str → Option Bool) (i : Nat) (b : MS) (h : Exc → MS) (env : Env) : mTry catches i b h env = tryA catches i h (b env) := by
  simp only [mTry]
  cases b env with
  | exc x e =>
    simp only [tryA]
    cases catches x.cls with
    | none => rfl
    | some c =>
      cases c with
      | false => rfl
      | true =>
        simp only [tryC]
        split
        · cases h x (e.set i none) <;> rfl
        · rfl
  | _ => rfl
def xfE (env : Env) : Bool → Option D → Rs O
  | true, some d => .ok (.d d) env
  | _, _ => .fail
@[simp] theorem xfE_t (env : Env) (d : D) : xfE env true (some d) = .ok (.d d) env := (rfl)
@[simp] theorem mXf_e (known : Str → Bool) (n : Str) (x : Exc) (env : Env) : mXf known n x env = xfE env (known x.cls) (x.fs.lookup n) := by
  simp only [mXf]
  cases known x.cls <;> cases x.fs.lookup n <;> rfl
def xiE (env : Env) : Option Bool → Rs O
  | some b => .ok (.d (.bl b)) env
  | none => .fail
@[simp] theorem xiE_s (env : Env) (b : Bool) : xiE env (some b) = .ok (.d (.bl b)) env := (rfl)
@[simp] theorem mXi_e (ans : Str → Option Bool) (x : Exc) (env : Env) : mXi ans x env = xiE env (ans x.cls) := by
  simp only [mXi]
  cases ans x.cls <;> rfl
def mutC (i : Nat) (e : Env) : Option (O × List O) → Rs O
  | some p => .ok p.1 (e.set i (some (.l p.2)))
  | none => .fail
@[simp] theorem mutC_s (i : Nat) (e : Env) (p : O × List O) : mutC i e (some p) = .ok p.1 (e.set i (some (.l p.2))) := (rfl)
def mutB (i : Nat) (f : List O → List O → Option (O × List O)) (e : Env) : Option (List O) → Option (Option O) → Rs O
  | some as, some (some (.l os)) => mutC i e (f os as)
  | _, _ => .fail
@[simp] theorem mutB_s (i : Nat) (f : List O → List O → Option (O × List O)) (e : Env) (as os : List O) : mutB i f e (some as) (some (some (.l os))) = mutC i e (f os as) := (rfl)
def mutA (i : Nat) (f : List O → List O → Option (O × List O)) : Rs (List (Option O)) → Rs O
  | .ok cs e => mutB i f e (allS cs) e[i]?
  | .exc x e => .exc x e
  | .fail => .fail
@[simp] theorem mutA_ok (i : Nat) (f : List O → List O → Option (O × List O)) (cs : List (Option O)) (e : Env) : mutA i f (.ok cs e) = mutB i f e (allS cs) e[i]? := (rfl)
def mutE (i : Nat) (f : List O → List O → Option (O × List O)) (ks : List AK) (env : Env) : Option (Option O) → Rs O
  | some (some (.l _)) => mutA i f (evalA ks env)
  | _ => .fail
@[simp] theorem mutE_l (i : Nat) (f : List O → List O → Option (O × List O)) (ks : List AK) (env : Env) (os : List O) : mutE i f ks env (some (some (.l os))) = mutA i f (evalA ks env) := (rfl)
@[simp] theorem mMut_e (i : Nat) (f : List O → List O → Option (O × List O)) (ks : List AK) (env : Env) : mMut i f ks env = mutE i f ks env env[i]? := by
  simp only [mMut]
  generalize env[i]? = z
  rcases z with _ | (_ | (x | os | xs)) <;> try rfl
  simp only [mutE]
  cases evalA ks env with
  | ok cs e =>
    simp only [mutA]
    generalize e[i]? = y
    generalize allS cs = w
    rcases w with _ | as <;> rcases y with _ | (_ | (x | os2 | xs)) <;> try rfl
    simp only [mutB]
    cases f os2 as <;> rfl
  | _ => rfl
@[simp] theorem fApp_e (os : List O) (a : O) : fApp os [a] = if os.length < 16000000 then some (.d .non, os ++ [a]) else none := (rfl)
def rvB (f : List D → O) (e : Env) : Option (List D) → Rs O
  | some xs => .ok (f xs.reverse) e
  | none => .fail
@[simp] theorem rvB_s (f : List D → O) (e : Env) (xs : List D) : rvB f e (some xs) = .ok (f xs.reverse) e := (rfl)
def rvE (f : List D → O) : Rs O → Rs O
  | .ok o e => rvB f e (seqF o)
  | .exc x e => .exc x e
  | .fail => .fail
@[simp] theorem rvE_ok (f : List D → O) (o : O) (e : Env) : rvE f (.ok o e) = rvB f e (seqF o) := (rfl)
@[simp] theorem mRv_e (f : List D → O) (m : ME) (env : Env) : mRv f m env = rvE f (m env) := by
  simp only [mRv]
  cases m env with
  | ok o e =>
    simp only [rvE]
    cases seqF o <;> rfl
  | _ => rfl
@[simp] theorem mtupleRev_e (m : ME) : mtupleRev m = mRv (fun xs => .d (.tup xs)) m := (rfl)
@[simp] theorem mlistRev_e (m : ME) : mlistRev m = mRv (fun xs => .l (xs.map O.d)) m := (rfl)
def lrB (n : Int) (e : Env) : Bool → Rs O
  | true => .ok (.l ((rgD 0 n.toNat).map O.d)) e
  | false => .fail
@[simp] theorem lrB_t (n : Int) (e : Env) : lrB n e true = .ok (.l ((rgD 0 n.toNat).map O.d)) e := (rfl)
def lrE : Rs O → Rs O
  | .ok (.d (.int n)) e => lrB n e (rgOk n && decide (n.toNat ≤ line))
  | .ok _ _ => .fail
  | .exc x e => .exc x e
  | .fail => .fail
@[simp] theorem lrE_ok (n : Int) (e : Env) : lrE (.ok (.d (.int n)) e) = lrB n e (rgOk n && decide (n.toNat ≤ line)) := (rfl)
@[simp] theorem mlistRg_e (m : ME) (env : Env) : mlistRg m env = lrE (m env) := by
  simp only [mlistRg]
  cases m env with
  | ok o e =>
    cases o with
    | d x =>
      cases x with
      | int n =>
        simp only [asI, lrE]
        cases (rgOk n && decide (n.toNat ≤ line)) <;> rfl
      | _ => rfl
    | _ => rfl
  | _ => rfl
def altE (m2 : ME) (env : Env) : Rs O → Rs O
  | .fail => m2 env
  | r => r
@[simp] theorem altE_ok (m2 : ME) (env : Env) (o : O) (e : Env) : altE m2 env (.ok o e) = .ok o e := (rfl)
@[simp] theorem altE_exc (m2 : ME) (env : Env) (o : Exc) (e : Env) : altE m2 env (.exc o e) = .exc o e := (rfl)
@[simp] theorem altE_fail (m2 : ME) (env : Env) : altE m2 env .fail = m2 env := (rfl)
@[simp] theorem mAlt_e (m1 m2 : ME) (env : Env) : mAlt m1 m2 env = altE m2 env (m1 env) := by
  simp only [mAlt]
  cases m1 env <;> rfl
def lookB (f : List O → Option O) (k : AK) (ks : List AK) (c : Option O) : Rs (List (Option O)) → Rs O
  | .ok cs e2 => opR f e2 (resA (k :: ks) (c :: cs) e2)
  | .exc x e => .exc x e
  | .fail => .fail
@[simp] theorem lookB_ok (f : List O → Option O) (k : AK) (ks : List AK) (c : Option O) (cs : List (Option O)) (e : Env) : lookB f k ks c (.ok cs e) = opR f e (resA (k :: ks) (c :: cs) e) := (rfl)
def lookG (f : List O → Option O) (k : AK) (ks : List AK) (c : Option O) (e : Env) : Option (List D) → Rs O
  | some _ => lookB f k ks c (evalA ks e)
  | none => .fail
@[simp] theorem lookG_s (f : List O → Option O) (k : AK) (ks : List AK) (c : Option O) (e : Env) (xs : List D) : lookG f k ks c e (some xs) = lookB f k ks c (evalA ks e) := (rfl)
@[simp] theorem lookG_n (f : List O → Option O) (k : AK) (ks : List AK) (c : Option O) (e : Env) : lookG f k ks c e none = .fail := (rfl)
def lookA (g : O → Option (List D)) (f : List O → Option O) (k : AK) (ks : List AK) : Rs (Option O) → Rs O
  | .ok c e => lookG f k ks c e ((resK k c e).bind g)
  | .exc x e => .exc x e
  | .fail => .fail
@[simp] theorem lookA_ok (g : O → Option (List D)) (f : List O → Option O) (k : AK) (ks : List AK) (c : Option O) (e : Env) : lookA g f k ks (.ok c e) = lookG f k ks c e ((resK k c e).bind g) := (rfl)
@[simp] theorem mLookG_e (g : O → Option (List D)) (f : List O → Option O) (k : AK) (ks : List AK) (env : Env) : mLookG g f k ks env = lookA g f k ks (evalK k env) := by
  simp only [mLookG]
  cases evalK k env with
  | ok c e =>
    simp only [lookA]
    cases (resK k c e).bind g with
    | none => rfl
    | some xs =>
      simp only [lookG]
      cases evalA ks e with
      | ok cs e2 =>
        simp only [lookB]
        cases resA (k :: ks) (c :: cs) e2 with
        | none => rfl
        | some os =>
          simp only [opR]
          cases f os <;> rfl
      | _ => rfl
  | _ => rfl
@[simp] theorem mPart_none (e : Env) : mPart none e = .ok none e := (rfl)
def ptE : Rs O → Rs (Option Int)
  | .ok (.d (.int i)) e => .ok (some i) e
  | .ok _ _ => .fail
  | .exc x e => .exc x e
  | .fail => .fail
@[simp] theorem ptE_ok (i : Int) (e : Env) : ptE (.ok (.d (.int i)) e) = .ok (some i) e := (rfl)
@[simp] theorem mPart_some (m : ME) (e : Env) : mPart (some m) e = ptE (m e) := by
  simp only [mPart]
  cases m e with
  | ok o e1 =>
    cases o with
    | d x => cases x <;> rfl
    | _ => rfl
  | _ => rfl
@[simp] theorem sliceO_tup (xs : List D) (lo hi : Option Int) : sliceO (.d (.tup xs)) lo hi = some (.d (.tup (cutD xs lo hi))) := (rfl)
theorem cutD_hd (xs : List D) (k : Nat) : cutD xs none (some (k : Int)) = xs.take k := by
  unfold cutD
  rw [HT.sIx_none, HT.sIx_nat, List.drop_zero, Nat.sub_zero]
  by_cases h : k ≤ xs.length
  · rw [Nat.min_eq_left h]
  · rw [Nat.min_eq_right (by omega), List.take_of_length_le (Nat.le_refl _), List.take_of_length_le (by omega)]
def slO (l h : Option Int) (e : Env) : Option (List O) → Rs O
  | some [o] => opO e (sliceO o l h)
  | _ => .fail
@[simp] theorem slO_s (l h : Option Int) (e : Env) (o : O) : slO l h e (some [o]) = opO e (sliceO o l h) := (rfl)
def slH (k : AK) (cs : List (Option O)) (l : Option Int) : Rs (Option Int) → Rs O
  | .ok h e => slO l h e (resA [k] cs e)
  | .exc x e => .exc x e
  | .fail => .fail
@[simp] theorem slH_ok (k : AK) (cs : List (Option O)) (l h : Option Int) (e : Env) : slH k cs l (.ok h e) = slO l h e (resA [k] cs e) := (rfl)
def slL (k : AK) (hi : Option ME) (cs : List (Option O)) : Rs (Option Int) → Rs O
  | .ok l e => slH k cs l (mPart hi e)
  | .exc x e => .exc x e
  | .fail => .fail
@[simp] theorem slL_ok (k : AK) (hi : Option ME) (cs : List (Option O)) (l : Option Int) (e : Env) : slL k hi cs (.ok l e) = slH k cs l (mPart hi e) := (rfl)
def slA (k : AK) (lo hi : Option ME) : Rs (List (Option O)) → Rs O
  | .ok cs e => slL k hi cs (mPart lo e)
  | .exc x e => .exc x e
  | .fail => .fail
@[simp] theorem slA_ok (k : AK) (lo hi : Option ME) (cs : List (Option O)) (e : Env) : slA k lo hi (.ok cs e) = slL k hi cs (mPart lo e) := (rfl)
@[simp] theorem mSlice_e (k : AK) (lo hi : Option ME) (env : Env) : mSlice k lo hi env = slA k lo hi (evalA [k] env) := by
  simp only [mSlice]
  cases evalA [k] env with
  | ok cs e =>
    simp only [slA]
    cases mPart lo e with
    | ok l e1 =>
      simp only [slL]
      cases mPart hi e1 with
      | ok h e2 =>
        simp only [slH]
        split
        · rename_i o q
          rw [q]
          simp only [slO]
          cases sliceO o l h <;> rfl
        · rename_i q
          unfold slO
          split
          · rename_i q2
            exact absurd q2 (q _)
          · rfl
      | _ => rfl
    | _ => rfl
  | _ => rfl
@[simp] theorem tyN_non : tyN (.d .non) = "NoneType" := (rfl)
@[simp] theorem tyN_bl (x : Bool) : tyN (.d (.bl x)) = "bool" := (rfl)
@[simp] theorem tyN_int (x : Int) : tyN (.d (.int x)) = "int" := (rfl)
@[simp] theorem tyN_str (x : Str) : tyN (.d (.str x)) = "str" := (rfl)
@[simp] theorem tyN_tup (x : List D) : tyN (.d (.tup x)) = "tuple" := (rfl)
@[simp] theorem tyN_lst (x : List D) : tyN (.d (.lst x)) = "list" := (rfl)
@[simp] theorem tyN_l (x : List O) : tyN (.l x) = "list" := (rfl)
@[simp] theorem oIsi_e (T : String) (a : O) : oIsi T [a] = (kitB (tyN a) T).map fun b => .d (.bl b) := (rfl)
def whB (c : Env → Rs Bool) (b : MS) (n : Nat) : SR → SR
  | .nx e2 => loopW c b n e2
  | .ct e2 => loopW c b n e2
  | .bk e2 => .nx e2
  | r => r
@[simp] theorem whB_nx (c : Env → Rs Bool) (b : MS) (n : Nat) (e : Env) : whB c b n (.nx e) = loopW c b n e := (rfl)
@[simp] theorem whB_rt (c : Env → Rs Bool) (b : MS) (n : Nat) (o : O) (e : Env) : whB c b n (.rt o e) = .rt o e := (rfl)
@[simp] theorem whB_exc (c : Env → Rs Bool) (b : MS) (n : Nat) (o : Exc) (e : Env) : whB c b n (.exc o e) = .exc o e := (rfl)
def whC (c : Env → Rs Bool) (b : MS) (n : Nat) : Rs Bool → SR
  | .ok true e => whB c b n (b e)
  | .ok false e => .nx e
  | .exc x e => .exc x e
  | .fail => .fail
@[simp] theorem whC_t (c : Env → Rs Bool) (b : MS) (n : Nat) (e : Env) : whC c b n (.ok true e) = whB c b n (b e) := (rfl)
@[simp] theorem whC_f (c : Env → Rs Bool) (b : MS) (n : Nat) (e : Env) : whC c b n (.ok false e) = .nx e := (rfl)
@[simp] theorem mWhile_e (fuel : Env → Nat) (c : Env → Rs Bool) (b : MS) (e : Env) : mWhile fuel c b e = loopW c b (fuel e) e := (rfl)
theorem loopW_succ (c : Env → Rs Bool) (b : MS) (n : Nat) (e : Env) : loopW c b (n + 1) e = whC c b n (c e) := by
  simp only [loopW]
  cases c e with
  | ok t e1 =>
    cases t with
    | true =>
      simp only [onT, whC]
      show (match b e1 with
        | .nx e2 => loopW c b n e2
        | .ct e2 => loopW c b n e2
        | .bk e2 => .nx e2
        | r => r) = _
      cases b e1 <;> rfl
    | false => rfl
  | _ => rfl
def fnA (np : List Nat) (n : Nat) : SR → FR
  | .nx e => .ok (.d .non) (asOf np n e)
  | .rt o e => .ok o (asOf np n e)
  | .exc x e => .exc x (asOf np n e)
  | _ => .fail
@[simp] theorem fnA_nx (np : List Nat) (n : Nat) (e : Env) : fnA np n (.nx e) = .ok (.d .non) (asOf np n e) := (rfl)
@[simp] theorem fnA_rt (np : List Nat) (n : Nat) (o : O) (e : Env) : fnA np n (.rt o e) = .ok o (asOf np n e) := (rfl)
@[simp] theorem fnA_exc (np : List Nat) (n : Nat) (x : Exc) (e : Env) : fnA np n (.exc x e) = .exc x (asOf np n e) := (rfl)
@[simp] theorem fnD_e (np : List Nat) (len : Nat) (m : MS) (os : List O) : fnD np len m os = fnA np os.length (m (os.map some ++ List.replicate (len - os.length) none)) := by
  simp only [fnD]
  cases m (os.map some ++ List.replicate (len - os.length) none) <;> rfl
@[simp] theorem asOf_1 (np : List Nat) (e : Env) : asOf np 1 e = [if np.contains 0 then (e[0]?).join else none] := (rfl)
@[simp] theorem asOf_2 (np : List Nat) (e : Env) : asOf np 2 e = [if np.contains 0 then (e[0]?).join else none, if np.contains 1 then (e[1]?).join else none] := (rfl)
@[simp] theorem asOf_3 (np : List Nat) (e : Env) : asOf np 3 e = [if np.contains 0 then (e[0]?).join else none, if np.contains 1 then (e[1]?).join else none, if np.contains 2 then (e[2]?).join else none] := (rfl)
@[simp] theorem asOf_4 (np : List Nat) (e : Env) : asOf np 4 e = [if np.contains 0 then (e[0]?).join else none, if np.contains 1 then (e[1]?).join else none, if np.contains 2 then (e[2]?).join else none, if np.contains 3 then (e[3]?).join else none] := (rfl)
@[simp] theorem asOf_5 (np : List Nat) (e : Env) : asOf np 5 e = [if np.contains 0 then (e[0]?).join else none, if np.contains 1 then (e[1]?).join else none, if np.contains 2 then (e[2]?).join else none, if np.contains 3 then (e[3]?).join else none, if np.contains 4 then (e[4]?).join else none] := (rfl)
@[simp] theorem kit_NoneType_bool : kitB "NoneType" "bool" = some false := by decide +kernel
@[simp] theorem kit_NoneType_int : kitB "NoneType" "int" = some false := by decide +kernel
@[simp] theorem kit_NoneType_str : kitB "NoneType" "str" = some false := by decide +kernel
@[simp] theorem kit_NoneType_tuple : kitB "NoneType" "tuple" = some false := by decide +kernel
@[simp] theorem kit_NoneType_list : kitB "NoneType" "list" = some false := by decide +kernel
@[simp] theorem kit_bool_bool : kitB "bool" "bool" = some true := by decide +kernel
@[simp] theorem kit_bool_int : kitB "bool" "int" = some true := by decide +kernel
@[simp] theorem kit_bool_str : kitB "bool" "str" = some false := by decide +kernel
@[simp] theorem kit_bool_tuple : kitB "bool" "tuple" = some false := by decide +kernel
@[simp] theorem kit_bool_list : kitB "bool" "list" = some false := by decide +kernel
@[simp] theorem kit_int_bool : kitB "int" "bool" = some false := by decide +kernel
@[simp] theorem kit_int_int : kitB "int" "int" = some true := by decide +kernel
@[simp] theorem kit_int_str : kitB "int" "str" = some false := by decide +kernel
@[simp] theorem kit_int_tuple : kitB "int" "tuple" = some false := by decide +kernel
@[simp] theorem kit_int_list : kitB "int" "list" = some false := by decide +kernel
@[simp] theorem kit_str_bool : kitB "str" "bool" = some false := by decide +kernel
@[simp] theorem kit_str_int : kitB "str" "int" = some false := by decide +kernel
@[simp] theorem kit_str_str : kitB "str" "str" = some true := by decide +kernel
@[simp] theorem kit_str_tuple : kitB "str" "tuple" = some false := by decide +kernel
@[simp] theorem kit_str_list : kitB "str" "list" = some false := by decide +kernel
@[simp] theorem kit_tuple_bool : kitB "tuple" "bool" = some false := by decide +kernel
@[simp] theorem kit_tuple_int : kitB "tuple" "int" = some false := by decide +kernel
@[simp] theorem kit_tuple_str : kitB "tuple" "str" = some false := by decide +kernel
@[simp] theorem kit_tuple_tuple : kitB "tuple" "tuple" = some true := by decide +kernel
@[simp] theorem kit_tuple_list : kitB "tuple" "list" = some false := by decide +kernel
@[simp] theorem kit_list_bool : kitB "list" "bool" = some false := by decide +kernel
@[simp] theorem kit_list_int : kitB "list" "int" = some false := by decide +kernel
@[simp] theorem kit_list_str : kitB "list" "str" = some false := by decide +kernel
@[simp] theorem kit_list_tuple : kitB "list" "tuple" = some false := by decide +kernel
@[simp] theorem kit_list_list : kitB "list" "list" = some true := by decide +kernel
theorem shaped_int (i : Int) : SeqAt.shaped (pd (.int i)) = true := by
  simp [SeqAt.shaped, pd, PyData.canLay0, PyData.depth]
theorem shaped_bl (i : Bool) : SeqAt.shaped (pd (.bl i)) = true := by
  simp [SeqAt.shaped, pd, PyData.canLay0, PyData.depth]
@[simp] theorem oEq_iF (i j : Int) : oEq false [.d (.int i), .d (.int j)] = some (.d (.bl (decide (i = j)))) := by
  simp only [oEq, frz_d, shaped_int, Bool.and_self, if_true]
  rfl
@[simp] theorem oEq_iT (i j : Int) : oEq true [.d (.int i), .d (.int j)] = some (.d (.bl (!decide (i = j)))) := by
  simp only [oEq, frz_d, shaped_int, Bool.and_self, if_true]
  rfl
@[simp] theorem oEq_bF (i j : Bool) : oEq false [.d (.bl i), .d (.bl j)] = some (.d (.bl (decide (i = j)))) := by
  simp only [oEq, frz_d, shaped_bl, Bool.and_self, if_true]
  cases i <;> cases j <;> rfl
theorem pds_lay : ∀ ns : List Int, PyData.canLayAll0 (pds (I ns)) = true ∧ PyData.depthAll (pds (I ns)) = 0
  | [] => by simp [pds, PyData.canLayAll0, PyData.depthAll]
  | n :: r => by
    have h := pds_lay r
    simp [pds, pd, PyData.canLayAll0, PyData.depthAll, PyData.canLay0, PyData.depth, h]
theorem shaped_I (ns : List Int) : SeqAt.shaped (pd (.lst (I ns))) = true := by
  have h := pds_lay ns
  simp [SeqAt.shaped, pd, PyData.canLay0, PyData.depth, h]
theorem shaped_IT (ns : List Int) : SeqAt.shaped (pd (.tup (I ns))) = true := by
  have h := pds_lay ns
  simp [SeqAt.shaped, pd, PyData.canLay0, PyData.depth, h]
theorem eqv_I : ∀ a b : List Int, PyData.eqvAll (pds (I a)) (pds (I b)) = decide (a = b)
  | [], [] => by simp [pds, PyData.eqvAll]
  | [], _ :: _ => by simp [pds, PyData.eqvAll]
  | _ :: _, [] => by simp [pds, PyData.eqvAll]
  | x :: a, y :: b => by
    simp only [I_cons, pds, pd, PyData.eqvAll, PyData.eqv, eqv_I a b]
    by_cases h : x = y <;> simp [h]
theorem oEq_LL (neg : Bool) (a b : List Int) : oEq neg [L a, L b] = some (.d (.bl (if neg then !decide (a = b) else decide (a = b)))) := by
  simp only [oEq, frz_l, frzs_map, shaped_I, Bool.and_self, if_true]
  simp only [deq, pd, PyData.eqv, eqv_I]
theorem oEq_TT (neg : Bool) (a b : List Int) : oEq neg [T a, T b] = some (.d (.bl (if neg then !decide (a = b) else decide (a = b)))) := by
  simp only [oEq, frz_d, shaped_IT, Bool.and_self, if_true]
  simp only [deq, pd, PyData.eqv, eqv_I]
theorem oEq_str {s : Str} (h : PyData.strOk s = true) : oEq false [.d (.str s), .d (.str s)] = some (.d (.bl true)) := by
  simp [oEq, frz_d, SeqAt.shaped, pd, PyData.canLay0, PyData.depth, deq, PyData.eqv, h]
@[simp] theorem oPlus_dl (a : List D) (b : List O) : oPlus [.d (.lst a), .l b] = match allD b with
  | some ys => if a.length + ys.length ≤ line then some (.l ((a ++ ys).map O.d)) else none
  | none => none := by
  simp only [oPlus, orO, oCatL, lstM]
  cases allD b <;> rfl
@[simp] theorem oPlus_ld (a : List O) (b : List D) : oPlus [.l a, .d (.lst b)] = match allD a with
  | some ys => if ys.length + b.length ≤ line then some (.l ((ys ++ b).map O.d)) else none
  | none => none := by
  simp only [oPlus, orO, oCatL, lstM]
  cases allD a <;> rfl
@[simp] theorem oPlus_ll (a b : List O) : oPlus [.l a, .l b] = match allD a, allD b with
  | some xs, some ys => if xs.length + ys.length ≤ line then some (.l ((xs ++ ys).map O.d)) else none
  | _, _ => none := by
  simp only [oPlus, orO, oCatL, lstM]
  cases allD a <;> cases allD b <;> rfl
@[simp] theorem oPlus_dd (a b : List D) : oPlus [.d (.lst a), .d (.lst b)] = if a.length + b.length ≤ line then some (.l ((a ++ b).map O.d)) else none := (rfl)
@[simp] theorem oPlus_tt (a b : List D) : oPlus [.d (.tup a), .d (.tup b)] = if a.length + b.length ≤ line then some (.d (.tup (a ++ b))) else none := by
  have e : oPlus [.d (.tup a), .d (.tup b)] = match (if a.length + b.length ≤ line then some (.d (.tup (a ++ b))) else none : Option O) with
    | some o => some o
    | none => none := rfl
  rw [e]
  split <;> rename_i h <;> exact h.symm
@[simp] theorem allD_nil : allD [] = some [] := (rfl)
@[simp] theorem oBools_e (f : List Bool → Bool) (a : O) : oBools f [a] = ((lstF a).bind dBools).map fun bs => .d (.bl (f bs)) := (rfl)
@[simp] theorem dBools_nil : dBools [] = some [] := (rfl)
@[simp] theorem dBools_cons (b : Bool) (r : List D) : dBools (.bl b :: r) = (dBools r).map (b :: ·) := (rfl)
@[simp] theorem lstF_nil : lstF (.l []) = some [] := (rfl)
@[simp] theorem lstF_cons (x : D) (r : List O) : lstF (.l (.d x :: r)) = (allD r).map (x :: ·) := (rfl)
theorem atO_l' (os : List O) (xs : List D) (i : Int) (h : os = xs.map O.d) : atO (.l os) i = atI xs i := by
  subst h
  exact atO_l xs i
@[simp] theorem oMinA_T (ns : List Int) : oMinA [T ns] = (fMin ns).map O.d := by simp [oMinA]
@[simp] theorem oMinA_t (ns : List Int) : oMinA [.t (I ns)] = (fMin ns).map O.d := by simp [oMinA]
@[simp] theorem oMinA_L (ns : List Int) : oMinA [L ns] = (fMin ns).map O.d := by simp [oMinA]
@[simp] theorem oMinA_F (ns : List Int) : oMinA [F ns] = (fMin ns).map O.d := by simp [oMinA]
@[simp] theorem oMaxA_T (ns : List Int) : oMaxA [T ns] = (fMax ns).map O.d := by simp [oMaxA]
@[simp] theorem oMaxA_L (ns : List Int) : oMaxA [L ns] = (fMax ns).map O.d := by simp [oMaxA]
@[simp] theorem oMaxA_F (ns : List Int) : oMaxA [F ns] = (fMax ns).map O.d := by simp [oMaxA]
@[simp] theorem allD_cons (x : D) (r : List O) : allD (.d x :: r) = (allD r).map (x :: ·) := (rfl)
@[simp] theorem I_app1 (a : List Int) (i : Int) : I a ++ [.int i] = I (a ++ [i]) := by simp [I]
theorem rgD_zero (n : Nat) : rgD 0 n = (List.range n).map fun (i : Nat) => D.int i := by
  unfold rgD
  congr 1
  funext i
  rw [Int.zero_add]
theorem min_if (a b : Int) : (if b < a then b else a) = min a b := by
  by_cases h : b < a
  · rw [if_pos h, Int.min_eq_right (by omega)]
  · rw [if_neg h, Int.min_eq_left (by omega)]
theorem max_if (a b : Int) : (if a < b then b else a) = max a b := by
  by_cases h : a < b
  · rw [if_pos h, Int.max_eq_right (by omega)]
  · rw [if_neg h, Int.max_eq_left (by omega)]
end
end Dn
end
section
set_option Elab.async false
set_option linter.all false
set_option maxRecDepth 100000
set_option maxHeartbeats 4000000
/-! Dn27: what worths come to, by simp (more). -/
namespace Dn
open PySem PySem.Spec L2 L2H
open PyProof.Rows hiding St
section
def augO (i : Nat) (e : Env) : Option O → SR
  | some z => if i < e.length then .nx (e.set i (some z)) else .fail
  | none => .fail
@[simp] theorem augO_s (i : Nat) (e : Env) (z : O) : augO i e (some z) = if i < e.length then .nx (e.set i (some z)) else .fail := (rfl)
def augE (i : Nat) (f : List O → Option O) (a : Int) : Rs O → SR
  | .ok o e => augO i e (f [.d (.int a), o])
  | .exc x e => .exc x e
  | .fail => .fail
@[simp] theorem augE_ok (i : Nat) (f : List O → Option O) (a : Int) (o : O) (e : Env) : augE i f a (.ok o e) = augO i e (f [.d (.int a), o]) := (rfl)
@[simp] theorem augE_exc (i : Nat) (f : List O → Option O) (a : Int) (o : Exc) (e : Env) : augE i f a (.exc o e) = .exc o e := (rfl)
def augI (i : Nat) (f : List O → Option O) (m : ME) (env : Env) : Option (Option O) → SR
  | some (some (.d (.int a))) => augE i f a (m env)
  | _ => .fail
@[simp] theorem augI_s (i : Nat) (f : List O → Option O) (m : ME) (env : Env) (a : Int) : augI i f m env (some (some (.d (.int a)))) = augE i f a (m env) := (rfl)
@[simp] theorem mAug_e (i : Nat) (f : List O → Option O) (m : ME) (env : Env) : mAug i f m env = augI i f m env env[i]? := by
  simp only [mAug]
  generalize env[i]? = z
  rcases z with _ | (_ | (x | os | xs)) <;> try rfl
  all_goals try (cases x <;> try rfl)
  all_goals try (simp only [augI]; generalize m env = y; cases y <;> try rfl)
  all_goals try (simp only [onE, augE]; generalize f _ = y; cases y <;> rfl)
def cpF (e : Env) : FR → Rs O
  | .ok o _ => .ok o e
  | .exc x _ => .exc x e
  | .fail => .fail
@[simp] theorem cpF_ok (e : Env) (o : O) (as : Env) : cpF e (.ok o as) = .ok o e := (rfl)
@[simp] theorem cpF_exc (e : Env) (o : Exc) (as : Env) : cpF e (.exc o as) = .exc o e := (rfl)
def cpD (π : List Nat) (f : List O → FR) (e : Env) : Option (List D) → Rs O
  | some xs => cpF e (f ((perm π xs).map O.d))
  | none => .fail
@[simp] theorem cpD_s (π : List Nat) (f : List O → FR) (e : Env) (xs : List D) : cpD π f e (some xs) = cpF e (f ((perm π xs).map O.d)) := (rfl)
def cpO (π : List Nat) (f : List O → FR) (e : Env) : Option (List O) → Rs O
  | some os => cpD π f e (dataO os)
  | none => .fail
@[simp] theorem cpO_s (π : List Nat) (f : List O → FR) (e : Env) (os : List O) : cpO π f e (some os) = cpD π f e (dataO os) := (rfl)
def cpA (π : List Nat) (f : List O → FR) (ks : List AK) : Rs (List (Option O)) → Rs O
  | .ok cs e => cpO π f e (resA ks cs e)
  | .exc x e => .exc x e
  | .fail => .fail
@[simp] theorem cpA_ok (π : List Nat) (f : List O → FR) (ks : List AK) (cs : List (Option O)) (e : Env) : cpA π f ks (.ok cs e) = cpO π f e (resA ks cs e) := (rfl)
@[simp] theorem mCallP_e (π : List Nat) (f : List O → FR) (ks : List AK) (env : Env) : mCallP π f ks env = cpA π f ks (evalA ks env) := by
  simp only [mCallP]
  cases evalA ks env with
  | ok cs e =>
    simp only [cpA]
    cases resA ks cs e with
    | none => rfl
    | some os =>
      simp only [cpO]
      cases dataO os with
      | none => rfl
      | some xs =>
        simp only [cpD]
        cases f ((perm π xs).map O.d) <;> rfl
  | _ => rfl
@[simp] theorem dataO_nil : dataO [] = some [] := (rfl)
@[simp] theorem dataO_cons (x : D) (r : List O) : dataO (.d x :: r) = (dataO r).map (x :: ·) := (rfl)
@[simp] theorem perm_nil {α : Type} (xs : List α) : perm [] xs = [] := (rfl)
def permC {α : Type} (π : List Nat) (xs : List α) : Option α → List α
  | some a => a :: perm π xs
  | none => perm π xs
@[simp] theorem permC_s {α : Type} (π : List Nat) (xs : List α) (a : α) : permC π xs (some a) = a :: perm π xs := (rfl)
@[simp] theorem perm_cons {α : Type} (j : Nat) (π : List Nat) (xs : List α) : perm (j :: π) xs = permC π xs xs[j]? := by
  unfold perm
  rw [List.filterMap_cons]
  cases xs[j]? <;> rfl
def fzE : Rs O → Rs O
  | .ok o e => .ok (.d (frz o)) e
  | r => r
@[simp] theorem fzE_ok (o : O) (e : Env) : fzE (.ok o e) = .ok (.d (frz o)) e := (rfl)
@[simp] theorem fzE_exc (o : Exc) (e : Env) : fzE (.exc o e) = .exc o e := (rfl)
@[simp] theorem mFz_e (m : ME) (env : Env) : mFz m env = fzE (m env) := by
  simp only [mFz]
  cases m env <;> rfl
def zipE (e : Env) : Option (List D) → Rs (List D)
  | some xs => .ok xs e
  | none => .fail
@[simp] theorem zipE_s (e : Env) (xs : List D) : zipE e (some xs) = .ok xs e := (rfl)
def zipA : Rs (List (Option O)) → Rs (List D)
  | .ok cs e => zipE e ((allS cs).bind zipO)
  | .exc x e => .exc x e
  | .fail => .fail
@[simp] theorem zipA_ok (cs : List (Option O)) (e : Env) : zipA (.ok cs e) = zipE e ((allS cs).bind zipO) := (rfl)
@[simp] theorem mZip_e (ks : List AK) (env : Env) : mZip ks env = zipA (evalA ks env) := by
  simp only [mZip]
  cases evalA ks env with
  | ok cs e =>
    simp only [zipA]
    cases (allS cs).bind zipO <;> rfl
  | _ => rfl
@[simp] theorem itR_tup (xs : List D) : itR (.tup xs) = some xs.reverse := (rfl)
@[simp] theorem itR_lst (xs : List D) : itR (.lst xs) = some xs.reverse := (rfl)
@[simp] theorem zipD_nil (ys : List D) : zipD [] ys = [] := by cases ys <;> rfl
@[simp] theorem zipD_cons (x y : D) (xs ys : List D) : zipD (x :: xs) (y :: ys) = .tup [x, y] :: zipD xs ys := (rfl)
def putX (i : Nat) (os : List O) (o : O) (e : Env) : Option Nat → SR
  | some n => .nx (e.set i (some (.l (os.set n o))))
  | none => .fail
@[simp] theorem putX_s (i : Nat) (os : List O) (o : O) (e : Env) (n : Nat) : putX i os o e (some n) = .nx (e.set i (some (.l (os.set n o)))) := (rfl)
def putR (i : Nat) (o : O) (e : Env) : Option (List O) → Option (Option O) → SR
  | some [.d (.int j)], some (some (.l os)) => putX i os o e (ixN os.length j)
  | _, _ => .fail
@[simp] theorem putR_s (i : Nat) (o : O) (e : Env) (j : Int) (os : List O) : putR i o e (some [.d (.int j)]) (some (some (.l os))) = putX i os o e (ixN os.length j) := (rfl)
def putK (i : Nat) (k : AK) (o : O) : Rs (Option O) → SR
  | .ok c e2 => putR i o e2 (resA [k] [c] e2) e2[i]?
  | .exc x e => .exc x e
  | .fail => .fail
@[simp] theorem putK_ok (i : Nat) (k : AK) (o : O) (c : Option O) (e : Env) : putK i k o (.ok c e) = putR i o e (resA [k] [c] e) e[i]? := (rfl)
def putL (i : Nat) (k : AK) (o : O) (e : Env) : Option (Option O) → SR
  | some (some (.l _)) => putK i k o (evalK k e)
  | _ => .fail
@[simp] theorem putL_l (i : Nat) (k : AK) (o : O) (e : Env) (os : List O) : putL i k o e (some (some (.l os))) = putK i k o (evalK k e) := (rfl)
def putM (i : Nat) (k : AK) : Rs O → SR
  | .ok o e => putL i k o e e[i]?
  | .exc x e => .exc x e
  | .fail => .fail
@[simp] theorem putM_ok (i : Nat) (k : AK) (o : O) (e : Env) : putM i k (.ok o e) = putL i k o e e[i]? := (rfl)
@[simp] theorem mPut_e (i : Nat) (m : ME) (k : AK) (env : Env) : mPut i m k env = putM i k (m env) := by
  simp only [mPut]
  cases m env with
  | ok o e =>
    simp only [onE, putM]
    generalize e[i]? = z
    rcases z with _ | (_ | (x | os | xs)) <;> try rfl
    simp only [putL]
    cases evalK k e with
    | ok c e2 =>
      simp only [putK]
      generalize resA [k] [c] e2 = r
      generalize e2[i]? = y
      rcases r with _ | (_ | ⟨a, _ | ⟨b, r⟩⟩) <;> rcases y with _ | (_ | (x2 | os2 | xs2)) <;> (try rfl) <;> rcases a with (_ | _ | j | _ | _ | _ | _) | os3 | xs3 <;> (try rfl)
      all_goals (simp only [asI, putR])
      all_goals (generalize ixN _ _ = w; cases w <;> rfl)
    | _ => rfl
  | _ => rfl
theorem ixN_of {n : Nat} {i : Int} (h0 : 0 ≤ i) (h1 : i < n) : ixN n i = some i.toNat := by
  unfold ixN
  rw [if_pos h0, if_pos h1]
@[simp] theorem cMod_e (i j : Int) : cMod i j = decide (0 < j) := (rfl)
@[simp] theorem oAbs_e (i : Int) : oAbs [N i] = some (N (if i < 0 then -i else i)) := (rfl)
theorem cMul_right {i j : Int} (h : -(2 ^ 64) < j ∧ j < 2 ^ 64) : cMul i j = true := by
  unfold cMul
  rw [decide_eq_true h]
  simp
theorem cMul_left {i j : Int} (h : -(2 ^ 64) < i ∧ i < 2 ^ 64) : cMul i j = true := by
  unfold cMul
  rw [decide_eq_true h]
  simp
/-- no number of a law's own is above it -/
def big : Int := ((2 ^ 3000 : Nat) : Int)
theorem log2_big {i : Int} (h0 : -big ≤ i) (h : i ≤ big) : i.natAbs.log2 < 3001 := by
  refine log2_of ?_ (by decide)
  have h4 : 2 ^ 3001 = 2 * 2 ^ 3000 := by rw [Nat.pow_succ]; omega
  have h5 : 0 < 2 ^ 3000 := Nat.two_pow_pos _
  unfold big at h0 h
  omega
theorem cMul_big {i j : Int} (h0 : -big ≤ i) (h : i ≤ big) (g0 : -big ≤ j) (g : j ≤ big) : cMul i j = true := by
  have a := log2_big h0 h
  have b := log2_big g0 g
  unfold cMul
  rw [decide_eq_true (by omega)]
  rfl
theorem cDiv_big {i j : Int} (g0 : 0 < j) (g : j ≤ big) : cDiv i j = true := by
  have b := log2_big (i := j) (by unfold big at *; omega) g
  unfold cDiv
  exact decide_eq_true ⟨g0, by omega⟩
theorem big_pos : 0 < big := by
  have h5 : 0 < 2 ^ 3000 := Nat.two_pow_pos _
  unfold big
  omega
end
end Dn
end
section
set_option Elab.async false
set_option linter.all false
set_option maxRecDepth 100000
set_option maxHeartbeats 4000000
/-! K24M: earliest and latest moments, plain. -/
namespace K24M
abbrev Pd := Nat → Bool
def on (n : Nat) (p : Pd) (m : Nat) : Option Nat := (List.range' m (n - m)).find? p
def bk (p : Pd) (m : Nat) : Option Nat := (List.range m).reverse.find? p
theorem find_range' {p : Pd} : ∀ {len m k : Nat}, (List.range' m len).find? p = some k → m ≤ k ∧ k < m + len ∧ p k = true ∧ ∀ j, m ≤ j → j < k → p j = false
  | 0, m, k, h => by cases h
  | len + 1, m, k, h => by
    rw [List.range'_succ, List.find?_cons] at h
    cases e : p m with
    | true =>
      rw [e] at h
      cases h
      exact ⟨Nat.le_refl _, by omega, e, fun j h1 h2 => by omega⟩
    | false =>
      rw [e] at h
      obtain ⟨h1, h2, h3, h4⟩ := find_range' h
      refine ⟨by omega, by omega, h3, fun j j1 j2 => ?_⟩
      by_cases q : j = m
      · rw [q]; exact e
      · exact h4 j (by omega) j2
theorem on_some {n m k : Nat} {p : Pd} (h : on n p m = some k) : m ≤ k ∧ k < n ∧ p k = true ∧ ∀ j, m ≤ j → j < k → p j = false := by
  obtain ⟨h1, h2, h3, h4⟩ := find_range' h
  exact ⟨h1, by omega, h3, h4⟩
theorem on_none {n m : Nat} {p : Pd} (h : on n p m = none) : ∀ j, m ≤ j → j < n → p j = false := fun j j1 j2 => by
  have := List.find?_eq_none.mp h j (List.mem_range'_1.mpr ⟨j1, by omega⟩)
  simpa using this
theorem on_of {n m k : Nat} {p : Pd} (h1 : m ≤ k) (h2 : k < n) (h3 : p k = true) (h4 : ∀ j, m ≤ j → j < k → p j = false) : on n p m = some k := by
  cases e : on n p m with
  | none => rw [on_none e k h1 h2] at h3; cases h3
  | some j =>
    obtain ⟨a, b, c, d⟩ := on_some e
    by_cases q : j < k
    · rw [h4 j a q] at c; cases c
    · by_cases q2 : k < j
      · rw [d k h1 q2] at h3; cases h3
      · rw [show j = k by omega]
theorem on_no {n m : Nat} {p : Pd} (h : ∀ j, m ≤ j → j < n → p j = false) : on n p m = none := by
  cases e : on n p m with
  | none => rfl
  | some j =>
    obtain ⟨a, b, c, -⟩ := on_some e
    rw [h j a b] at c
    cases c
theorem on_step {n m : Nat} {p : Pd} (h : m < n) (hp : p m = false) : on n p m = on n p (m + 1) := by
  unfold on
  rw [show n - m = (n - (m + 1)) + 1 by omega, List.range'_succ, List.find?_cons, hp]
theorem bk_succ (p : Pd) (m : Nat) : bk p (m + 1) = if p m = true then some m else bk p m := by
  unfold bk
  rw [List.range_succ, List.reverse_append, List.reverse_singleton, List.singleton_append, List.find?_cons]
  cases p m <;> rfl
theorem bk_some {p : Pd} : ∀ {m k : Nat}, bk p m = some k → k < m ∧ p k = true ∧ ∀ j, k < j → j < m → p j = false
  | 0, k, h => by cases h
  | m + 1, k, h => by
    rw [bk_succ] at h
    cases e : p m with
    | true =>
      rw [e, if_pos rfl] at h
      cases h
      exact ⟨by omega, e, fun j h1 h2 => by omega⟩
    | false =>
      rw [e, if_neg Bool.false_ne_true] at h
      obtain ⟨h1, h2, h3⟩ := bk_some h
      refine ⟨by omega, h2, fun j j1 j2 => ?_⟩
      by_cases q : j = m
      · rw [q]; exact e
      · exact h3 j j1 (by omega)
theorem bk_none {p : Pd} : ∀ {m : Nat}, bk p m = none → ∀ j, j < m → p j = false
  | 0, _, j, hj => by omega
  | m + 1, h, j, hj => by
    rw [bk_succ] at h
    cases e : p m with
    | true => rw [e, if_pos rfl] at h; cases h
    | false =>
      rw [e, if_neg Bool.false_ne_true] at h
      by_cases q : j = m
      · rw [q]; exact e
      · exact bk_none h j (by omega)
def gon (n : Nat) : List Pd → Nat → List Nat
  | [], _ => []
  | p :: ps, m => match on n p m with
    | some k => k :: gon n ps k
    | none => []
def gbk : List Pd → Nat → List Nat
  | [], _ => []
  | p :: ps, m => match bk p m with
    | some k => k :: gbk ps (k + 1)
    | none => []
theorem gon_len (n : Nat) : ∀ (ps : List Pd) (m : Nat), (gon n ps m).length ≤ ps.length
  | [], _ => Nat.le_refl _
  | p :: ps, m => by
    unfold gon
    cases on n p m with
    | none => exact Nat.zero_le _
    | some k => exact Nat.succ_le_succ (gon_len n ps k)
theorem gbk_len : ∀ (ps : List Pd) (m : Nat), (gbk ps m).length ≤ ps.length
  | [], _ => Nat.le_refl _
  | p :: ps, m => by
    unfold gbk
    cases bk p m with
    | none => exact Nat.zero_le _
    | some k => exact Nat.succ_le_succ (gbk_len ps (k + 1))
theorem gon_mem {n : Nat} : ∀ {ps : List Pd} {m e : Nat}, e ∈ gon n ps m → m ≤ e ∧ e < n
  | [], _, _, h => nomatch h
  | p :: ps, m, e, h => by
    unfold gon at h
    cases q : on n p m with
    | none => rw [q] at h; cases h
    | some k =>
      rw [q] at h
      obtain ⟨h1, h2, -, -⟩ := on_some q
      rcases List.mem_cons.mp h with rfl | h
      · exact ⟨h1, h2⟩
      · have := gon_mem h
        omega
theorem gbk_mem : ∀ {ps : List Pd} {m e : Nat}, e ∈ gbk ps m → e < m
  | [], _, _, h => nomatch h
  | p :: ps, m, e, h => by
    unfold gbk at h
    cases q : bk p m with
    | none => rw [q] at h; cases h
    | some k =>
      rw [q] at h
      obtain ⟨h1, -, -⟩ := bk_some q
      rcases List.mem_cons.mp h with rfl | h
      · exact h1
      · have := gbk_mem h
        omega
/-- there is a watch from lo on, below hi -/
def Wt : List Pd → Nat → Nat → Prop
  | [], _, _ => True
  | p :: ps, lo, hi => ∃ k, lo ≤ k ∧ k < hi ∧ p k = true ∧ Wt ps k hi
theorem Wt.mono {lo lo' hi hi' : Nat} : ∀ {ps : List Pd}, lo' ≤ lo → hi ≤ hi' → Wt ps lo hi → Wt ps lo' hi'
  | [], _, _, _ => trivial
  | p :: ps, h1, h2, ⟨k, a, b, c, d⟩ => ⟨k, by omega, by omega, c, d.mono (Nat.le_refl _) h2⟩
theorem Wt.gon {hi : Nat} : ∀ {ps : List Pd} {lo : Nat}, Wt ps lo hi ↔ (gon hi ps lo).length = ps.length
  | [], _ => ⟨fun _ => rfl, fun _ => trivial⟩
  | p :: ps, lo => by
    unfold K24M.gon
    cases q : on hi p lo with
    | none =>
      refine ⟨fun ⟨k, a, b, c, _⟩ => ?_, fun h => by cases h⟩
      rw [on_none q k a b] at c
      cases c
    | some k =>
      obtain ⟨a, b, c, d⟩ := on_some q
      refine ⟨fun ⟨j, ja, jb, jc, jd⟩ => ?_, fun h => ⟨k, a, b, c, Wt.gon.mpr (Nat.succ.inj h)⟩⟩
      have : k ≤ j := by
        by_cases z : j < k
        · rw [d j ja z] at jc; cases jc
        · omega
      exact congrArg (· + 1) (Wt.gon.mp (jd.mono this (Nat.le_refl _)))
theorem Wt.snoc {p : Pd} : ∀ {ps : List Pd} {lo hi : Nat}, Wt (ps ++ [p]) lo hi ↔ ∃ k, lo ≤ k ∧ k < hi ∧ p k = true ∧ Wt ps lo (k + 1)
  | [], lo, hi => ⟨fun ⟨k, a, b, c, _⟩ => ⟨k, a, b, c, trivial⟩, fun ⟨k, a, b, c, _⟩ => ⟨k, a, b, c, trivial⟩⟩
  | q :: qs, lo, hi => by
    constructor
    · rintro ⟨j, a, b, c, d⟩
      obtain ⟨k, ka, kb, kc, kd⟩ := Wt.snoc.mp d
      exact ⟨k, by omega, kb, kc, j, a, by omega, c, kd⟩
    · rintro ⟨k, a, b, c, j, ja, jb, jc, jd⟩
      exact ⟨j, ja, by omega, jc, Wt.snoc.mpr ⟨k, by omega, b, c, jd⟩⟩
theorem Wt.gbk {lo : Nat} : ∀ {ps : List Pd} {hi : Nat}, Wt ps.reverse lo hi ↔ (gbk ps hi).length = ps.length ∧ ∀ e ∈ gbk ps hi, lo ≤ e
  | [], _ => ⟨fun _ => ⟨rfl, fun _ h => nomatch h⟩, fun _ => trivial⟩
  | p :: ps, hi => by
    rw [List.reverse_cons, Wt.snoc]
    unfold K24M.gbk
    cases q : bk p hi with
    | none =>
      refine ⟨fun ⟨k, a, b, c, _⟩ => ?_, fun h => by cases h.1⟩
      rw [bk_none q k b] at c
      cases c
    | some k0 =>
      obtain ⟨b0, c0, d0⟩ := bk_some q
      constructor
      · rintro ⟨k, a, b, c, d⟩
        have kk : k ≤ k0 := by
          by_cases z : k0 < k
          · rw [d0 k z b] at c; cases c
          · omega
        obtain ⟨h1, h2⟩ := Wt.gbk.mp (d.mono (hi' := k0 + 1) (Nat.le_refl _) (by omega))
        refine ⟨congrArg (· + 1) h1, fun e he => ?_⟩
        rcases List.mem_cons.mp he with rfl | he
        · omega
        · exact h2 e he
      · rintro ⟨h1, h2⟩
        exact ⟨k0, h2 k0 List.mem_cons_self, b0, c0, Wt.gbk.mpr ⟨Nat.succ.inj h1, fun e he => h2 e (List.mem_cons_of_mem _ he)⟩⟩
/-- the greedy way below a lower bound -/
theorem gon_cut {n f : Nat} (hf : f ≤ n) : ∀ {ps : List Pd} {m : Nat}, (gon f ps m).length = ps.length ↔ (gon n ps m).length = ps.length ∧ ∀ e ∈ gon n ps m, e < f
  | [], _ => ⟨fun _ => ⟨rfl, fun _ h => nomatch h⟩, fun _ => rfl⟩
  | p :: ps, m => by
    unfold gon
    cases q : on n p m with
    | none =>
      rw [on_no (n := f) fun j a b => on_none q j a (by omega)]
      exact ⟨(fun h => by cases h), (fun h => by cases h.1)⟩
    | some k =>
      obtain ⟨a, b, c, d⟩ := on_some q
      by_cases z : k < f
      · rw [on_of a z c d]
        have ih := gon_cut hf (ps := ps) (m := k)
        constructor
        · intro h
          obtain ⟨h1, h2⟩ := ih.mp (Nat.succ.inj h)
          refine ⟨congrArg (· + 1) h1, fun e he => ?_⟩
          rcases List.mem_cons.mp he with rfl | he
          · exact z
          · exact h2 e he
        · rintro ⟨h1, h2⟩
          exact congrArg (· + 1) (ih.mpr ⟨Nat.succ.inj h1, fun e he => h2 e (List.mem_cons_of_mem _ he)⟩)
      · rw [on_no (n := f) fun j j1 j2 => d j j1 (by omega)]
        exact ⟨(fun h => by cases h), (fun h => absurd (h.2 k List.mem_cons_self) z)⟩
/-- the turned looks -/
def tn (n : Nat) (p : Pd) : Pd := fun j => p (n - 1 - j)
theorem range_turn (n j : Nat) (h : j ≤ n) : (List.range' j (n - j)).map (fun i => n - 1 - i) = (List.range (n - j)).reverse := by
  apply List.ext_getElem?
  intro i
  by_cases q : i < n - j
  · rw [List.getElem?_map, List.getElem?_range' q, List.getElem?_reverse (by simpa using q), List.length_range, List.getElem?_range (by omega)]
    simp
    omega
  · rw [List.getElem?_eq_none (by simp; omega), List.getElem?_eq_none (by simp; omega)]
theorem on_turn {n j : Nat} {p : Pd} (h : j ≤ n) : bk p (n - j) = (on n (tn n p) j).map fun i => n - 1 - i := by
  unfold bk on
  rw [← range_turn n j h, List.find?_map]
  rfl
theorem gon_turn {n : Nat} : ∀ {ps : List Pd} {j : Nat}, j ≤ n → (gon n (ps.map (tn n)) j).map (fun i => n - 1 - i) = gbk ps (n - j)
  | [], _, _ => rfl
  | p :: ps, j, h => by
    have e := on_turn (p := p) h
    simp only [List.map_cons, gon, gbk]
    rw [e]
    cases q : on n (tn n p) j with
    | none => rfl
    | some k =>
      obtain ⟨a, b, -, -⟩ := on_some q
      have ih := gon_turn (n := n) (ps := ps) (j := k) (by omega)
      simp only [Option.map_some, List.map_cons]
      rw [ih, show n - 1 - k + 1 = n - k by omega]
/-- greedy moments never go down -/
theorem gon_last {n : Nat} : ∀ {ps : List Pd} {m x : Nat}, (gon n ps m).getLast? = some x → ∀ e ∈ gon n ps m, e ≤ x
  | [], _, _, h => by cases h
  | p :: ps, m, x, h => by
    unfold gon at h ⊢
    cases q : on n p m with
    | none => rw [q] at h; cases h
    | some k =>
      rw [q] at h
      intro e he
      cases r : gon n ps k with
      | nil =>
        simp only [r] at h he
        simp at h he
        omega
      | cons y ys =>
        have hy : y ∈ gon n ps k := by rw [r]; exact List.mem_cons_self
        have hl : (gon n ps k).getLast? = some x := by
          simp only [r] at h ⊢
          rw [List.getLast?_cons_cons] at h
          exact h
        have ih := gon_last hl
        rcases List.mem_cons.mp he with rfl | he
        · have := ih y hy
          have := (gon_mem hy).1
          omega
        · exact ih e he
theorem gbk_last : ∀ {ps : List Pd} {m x : Nat}, (gbk ps m).getLast? = some x → ∀ e ∈ gbk ps m, x ≤ e
  | [], _, _, h => by cases h
  | p :: ps, m, x, h => by
    unfold gbk at h ⊢
    cases q : bk p m with
    | none => rw [q] at h; cases h
    | some k =>
      rw [q] at h
      intro e he
      cases r : gbk ps (k + 1) with
      | nil =>
        simp only [r] at h he
        simp at h he
        omega
      | cons y ys =>
        have hy : y ∈ gbk ps (k + 1) := by rw [r]; exact List.mem_cons_self
        have hl : (gbk ps (k + 1)).getLast? = some x := by
          simp only [r] at h ⊢
          rw [List.getLast?_cons_cons] at h
          exact h
        have ih := gbk_last hl
        rcases List.mem_cons.mp he with rfl | he
        · have := ih y hy
          have := gbk_mem hy
          omega
        · exact ih e he
end K24M
end
section
set_option Elab.async false
set_option linter.all false
set_option maxRecDepth 100000
set_option maxHeartbeats 4000000
/-! Dn32: evaluation of zip of three, x[::-1], bit_length. -/
namespace Dn
open PySem PySem.Spec L2 L2H
open PyProof.Rows hiding St
def zip3A : Rs (List (Option O)) → Rs (List D)
  | .ok cs e => zipE e ((allS cs).bind zip3O)
  | .exc x e => .exc x e
  | .fail => .fail
@[simp] theorem zip3A_ok (cs : List (Option O)) (e : Env) : zip3A (.ok cs e) = zipE e ((allS cs).bind zip3O) := (rfl)
@[simp] theorem mZip3_e (ks : List AK) (env : Env) : mZip3 ks env = zip3A (evalA ks env) := by
  simp only [mZip3]
  cases evalA ks env with
  | ok cs e =>
    simp only [zip3A]
    cases (allS cs).bind zip3O <;> rfl
  | exc x e => rfl
  | fail => rfl
@[simp] theorem zip3O_T (a b c : List D) : zip3O [.d (.tup a), .d (.tup b), .d (.tup c)] = some (zip3D a b c) := (rfl)
@[simp] theorem toRv_T (a : List D) : toRv (.d (.tup a)) = some (.d (.tup a.reverse)) := (rfl)
@[simp] theorem oBits_i (i : Int) : oBits (.d (.int i)) = some (.d (.int (Builtin.Int.intBits i : Nat))) := (rfl)
end Dn
end
section
set_option Elab.async false
set_option linter.all false
set_option maxRecDepth 100000
set_option maxHeartbeats 4000000
/-! Dn38: what Dn34 .. Dn37 come to, by simp. -/
namespace Dn
open PySem PySem.Spec L2 L2H
open PyProof.Rows hiding St
@[simp] theorem fRev_e (os : List O) : fRev os [] = some (.d .non, os.reverse) := (rfl)
theorem map_rev (xs : List D) : (xs.map O.d).reverse = xs.reverse.map O.d := (List.map_reverse).symm
@[simp] theorem oBool_i (i : Int) : oBool [.d (.int i)] = some (.d (.bl (i != 0))) := (rfl)
@[simp] theorem oBool_b (b : Bool) : oBool [.d (.bl b)] = some (.d (.bl b)) := (rfl)
@[simp] theorem oIsiT_e (Ts : List String) (a : O) : oIsiT Ts [a] = (kitBs (tyN a) Ts).map fun b => .d (.bl b) := (rfl)
@[simp] theorem kitBs_tt : kitBs "tuple" ["tuple", "list"] = some true := by decide +kernel
@[simp] theorem kitBs_ll : kitBs "list" ["tuple", "list"] = some true := by decide +kernel
@[simp] theorem kitBs_ii : kitBs "int" ["tuple", "list"] = some false := by decide +kernel
def rg3 (e : Env) : Option Int → Option Int → Option Int → Rs (List D)
  | some i, some j, some (-1) => if rgOk i && rgOk j then .ok (dnD i (i - j).toNat) e else .fail
  | _, _, _ => .fail
@[simp] theorem rg3_e (e : Env) (i j : Int) : rg3 e (some i) (some j) (some (-1)) = if rgOk i && rgOk j then .ok (dnD i (i - j).toNat) e else .fail := (rfl)
def rgR3 (e : Env) : Option (List O) → Rs (List D)
  | some [a, b, c] => rg3 e (asI a) (asI b) (asI c)
  | _ => .fail
@[simp] theorem rgR3_e (e : Env) (a b c : O) : rgR3 e (some [a, b, c]) = rg3 e (asI a) (asI b) (asI c) := (rfl)
def rgA3 (ks : List AK) : Rs (List (Option O)) → Rs (List D)
  | .ok cs e => rgR3 e (resA ks cs e)
  | .exc x e => .exc x e
  | .fail => .fail
@[simp] theorem rgA3_ok (ks : List AK) (cs : List (Option O)) (e : Env) : rgA3 ks (.ok cs e) = rgR3 e (resA ks cs e) := (rfl)
@[simp] theorem mRgB_e (ks : List AK) (env : Env) : mRgB ks env = rgA3 ks (evalA ks env) := by
  simp only [mRgB]
  cases evalA ks env with
  | ok cs e =>
    simp only [rgA3]
    generalize resA ks cs e = r
    rcases r with _ | (_ | ⟨a, _ | ⟨b, _ | ⟨c, _ | ⟨d, r⟩⟩⟩⟩) <;> rfl
  | _ => rfl
def rvR (e : Env) : Option Int → Rs (List D)
  | some n => if rgOk n then .ok (dnD (n - 1) n.toNat) e else .fail
  | none => .fail
@[simp] theorem rvR_s (e : Env) (n : Int) : rvR e (some n) = if rgOk n then .ok (dnD (n - 1) n.toNat) e else .fail := (rfl)
def rvA : Rs O → Rs (List D)
  | .ok o e => rvR e (asI o)
  | .exc x e => .exc x e
  | .fail => .fail
@[simp] theorem rvA_ok (o : O) (e : Env) : rvA (.ok o e) = rvR e (asI o) := (rfl)
@[simp] theorem mRvRg_e (m : ME) (env : Env) : mRvRg m env = rvA (m env) := by
  simp only [mRvRg]
  cases m env with
  | ok o e =>
    simp only [rvA]
    cases asI o <;> rfl
  | _ => rfl
def hdC (i : Nat) (e : Env) (x : Exc) (h : Exc → MS) (r : HM) : Option Bool → SR
  | some true => if i < e.length then tryF i (h x (e.set i none)) else .fail
  | some false => hdN i e x r
  | none => .fail
@[simp] theorem hdC_t (i : Nat) (e : Env) (x : Exc) (h : Exc → MS) (r : HM) : hdC i e x h r (some true) = if i < e.length then tryF i (h x (e.set i none)) else .fail := (rfl)
@[simp] theorem hdC_f (i : Nat) (e : Env) (x : Exc) (h : Exc → MS) (r : HM) : hdC i e x h r (some false) = hdN i e x r := (rfl)
@[simp] theorem hdN_nil (i : Nat) (e : Env) (x : Exc) : hdN i e x [] = .exc x e := (rfl)
@[simp] theorem hdN_cons (i : Nat) (e : Env) (x : Exc) (c : Str → Option Bool) (h : Exc → MS) (r : HM) : hdN i e x ((c, h) :: r) = hdC i e x h r (c x.cls) := by
  simp only [hdN]
  cases c x.cls with
  | none => rfl
  | some b =>
    cases b with
    | false => rfl
    | true =>
      simp only [hdC]
      split
      · cases h x (e.set i none) <;> rfl
      · rfl
def tryM (hs : HM) (i : Nat) : SR → SR
  | .exc x e => hdN i e x hs
  | r => r
@[simp] theorem tryM_exc (hs : HM) (i : Nat) (x : Exc) (e : Env) : tryM hs i (.exc x e) = hdN i e x hs := (rfl)
@[simp] theorem tryM_nx (hs : HM) (i : Nat) (e : Env) : tryM hs i (.nx e) = .nx e := (rfl)
@[simp] theorem tryM_rt (hs : HM) (i : Nat) (o : O) (e : Env) : tryM hs i (.rt o e) = .rt o e := (rfl)
@[simp] theorem mTryM_e (hs : HM) (i : Nat) (b : MS) (env : Env) : mTryM hs i b env = tryM hs i (b env) := by
  simp only [mTryM]
  cases b env <;> rfl
def tupRgB (n : Int) (e : Env) : Bool → Rs O
  | true => .ok (.d (.tup (rgD 0 n.toNat))) e
  | false => .fail
@[simp] theorem tupRgB_t (n : Int) (e : Env) : tupRgB n e true = .ok (.d (.tup (rgD 0 n.toNat))) e := (rfl)
def tupRgA : Rs O → Rs O
  | .ok (.d (.int n)) e => tupRgB n e (rgOk n && decide (n.toNat ≤ line))
  | .ok _ _ => .fail
  | .exc x e => .exc x e
  | .fail => .fail
@[simp] theorem tupRgA_ok (n : Int) (e : Env) : tupRgA (.ok (.d (.int n)) e) = tupRgB n e (rgOk n && decide (n.toNat ≤ line)) := (rfl)
@[simp] theorem mtupleRg_e (m : ME) (env : Env) : mtupleRg m env = tupRgA (m env) := by
  simp only [mtupleRg]
  cases m env with
  | ok o e =>
    cases o with
    | d x =>
      cases x with
      | int n =>
        simp only [asI, tupRgA]
        cases (rgOk n && decide (n.toNat ≤ line)) <;> rfl
      | _ => rfl
    | _ => rfl
  | _ => rfl
theorem oPlusB_of {os : List O} {o : O} (h : oPlus os = some o) : oPlusB os = some o := by
  unfold oPlusB orO
  rw [h]
@[simp] theorem oPlusB_ii (i j : Int) : oPlusB [.d (.int i), .d (.int j)] = some (.d (.int (i + j))) := oPlusB_of rfl
@[simp] theorem oPlusB_bi (b : Bool) (j : Int) : oPlusB [.d (.bl b), .d (.int j)] = some (.d (.int ((if b = true then (1 : Int) else 0) + j))) := (rfl)
end Dn
end
section
set_option Elab.async false
set_option linter.all false
set_option maxRecDepth 100000
set_option maxHeartbeats 4000000
namespace K24
open PySem PySem.Spec L2 L2H Dn K24M
open PyProof.Rows hiding St
abbrev tt : O := .d (.bl true)
abbrev ff : O := .d (.bl false)
def isInt : D → Bool
  | .int _ => true
  | _ => false
def below : D → Int → Bool
  | .int i, l => decide (0 ≤ i) && decide (i < l)
  | _, _ => false
theorem below_int {d : D} {l : Int} (h : below d l = true) : ∃ i, d = .int i ∧ 0 ≤ i ∧ i < l := by
  cases d <;> simp [below] at h
  exact ⟨_, rfl, h.1, h.2⟩
theorem e_is_integer (d : D) : D_is_integer [.d d] = .ok (.d (.bl (isInt d))) [some (.d d)] := by
  cases d <;> simp [D_is_integer, m_is_integer, isInt, tyN]
theorem e_is_number (d : D) : D_is_number [.d d] = .ok (.d (.bl (match d with | .int i => decide (0 ≤ i) | _ => false))) [some (.d d)] := by
  have e := e_is_integer d
  cases d <;> simp [D_is_number, m_is_number, e, isInt] at e ⊢ <;> simp [e]
/-! rows -/
def RowOk : List Int → List Int → Prop
  | [], [] => True
  | x :: xs, v :: vs => 0 ≤ v ∧ v < x ∧ RowOk xs vs
  | _, _ => False
theorem RowOk.len : ∀ {xs vs : List Int}, RowOk xs vs → vs.length = xs.length
  | [], [], _ => rfl
  | _ :: _, _ :: _, h => congrArg (· + 1) h.2.2.len
def zw : List D → List Int → List Bool
  | d :: ds, x :: xs => below d x :: zw ds xs
  | _, _ => []
def rowB (xs : List Int) : D → Bool
  | .tup ds => decide (ds.length = xs.length) && (zw ds xs).all id
  | _ => false
theorem rowB_ok : ∀ {xs vs : List Int}, RowOk xs vs → (zw (I vs) xs).all id = true
  | [], [], _ => rfl
  | x :: xs, v :: vs, h => by
    have := rowB_ok h.2.2
    simp [zw, below, h.1, h.2.1]
    simpa using this
theorem rowB_T {xs vs : List Int} (h : RowOk xs vs) : rowB xs (.tup (I vs)) = true := by
  have := rowB_ok h
  simp [rowB, h.len]
  simpa using this
def zf : D → D
  | .tup [v, .int x] => .bl (below v x)
  | _ => .non
theorem zw_map : ∀ (ds : List D) (xs : List Int), (zipD ds (I xs)).map zf = Bs (zw ds xs)
  | [], xs => by simp [zw, Bs]
  | d :: ds, [] => rfl
  | d :: ds, x :: xs => by
    have := zw_map ds xs
    simp only [I_cons, zipD_cons, List.map_cons, zw, this]
    rfl
theorem zip_mem : ∀ {ds : List D} {xs : List Int} {z : D}, z ∈ zipD ds (I xs) → ∃ v x, z = .tup [v, .int x]
  | [], xs, z, h => by simp at h
  | d :: ds, [], z, h => by cases h
  | d :: ds, x :: xs, z, h => by
    rcases List.mem_cons.mp h with rfl | h
    · exact ⟨d, x, rfl⟩
    · exact zip_mem h
theorem zipD_len : ∀ (xs ys : List D), (zipD xs ys).length ≤ ys.length
  | [], ys => by simp
  | x :: xs, [] => Nat.le_refl _
  | x :: xs, y :: ys => Nat.succ_le_succ (zipD_len xs ys)
/-- no tuple is longer -/
def Few (d : D) : Prop := ∀ ds, d = .tup ds → ds.length ≤ 1000
theorem e_is_row {xs : List Int} (hlen : xs.length ≤ 100) (d : D) (hd : Few d) : D_is_row [T xs, .d d] = .ok (.d (.bl (rowB xs d))) [some (T xs), some (.d d)] := by
  cases d with
  | tup ds =>
    have hdl := hd ds rfl
    have e := compL_map (vs := [2, 3]) (g := gT [gN 2, gN 3]) (c := mYes) (m := mAnd (mCall D_is_number [.nm 2]) (mOp oLt [.nm 2, .nm 3])) (e := [some (T xs), some (.d (.tup ds)), none, none]) zf (zipD ds (I xs)) (fun z hz => by
      obtain ⟨v, x, rfl⟩ := zip_mem hz
      refine ⟨_, _, [some (T xs), some (.d (.tup ds)), some (.d v), some (N x)], rfl, rfl, ?_, rfl⟩
      have en := e_is_number v
      cases v with
      | int i =>
        by_cases q : 0 ≤ i
        · simp [q] at en
          simp [en, zf, below, q]
        · simp [q] at en
          simp [en, zf, below, q]
      | _ => simp at en; simp [en, zf, below]) (by have := zipD_len ds (I xs); simp at this; omega)
    rw [zw_map] at e
    have zp : zipP (.tup ds) (.tup (I xs)) = some (zipD ds (I xs)) := rfl
    by_cases q : ds.length = xs.length
    · have q2 : (ds.length : Int) = xs.length := by omega
      simp [D_is_row, m_is_row, rowB, q, zipO, zp, e]
    · have q2 : ¬ (ds.length : Int) = xs.length := by omega
      simp [D_is_row, m_is_row, rowB, q, q2]
  | _ => simp [D_is_row, m_is_row, rowB, tyN]
/-! tours -/
def tourB (n : Nat) : D → Bool
  | .tup ds => (ds.map fun d => below d n).all id
  | _ => false
theorem e_is_tour {xs : List Int} (d : D) (hd : Few d) : D_is_tour [T xs, .d d] = .ok (.d (.bl (tourB xs.length d))) [some (T xs), some (.d d)] := by
  cases d with
  | tup ds =>
    have hdl := hd ds rfl
    have e := compL_map (vs := [2]) (g := gN 2) (c := mYes) (m := mAnd (mCall D_is_number [.nm 2]) (mOp oLt [.nm 2, .ex (mOp oLen [.nm 0])])) (e := [some (T xs), some (.d (.tup ds)), none]) (fun v => .bl (below v xs.length)) ds (fun v hv => by
      refine ⟨_, _, [some (T xs), some (.d (.tup ds)), some (.d v)], rfl, rfl, ?_, rfl⟩
      have en := e_is_number v
      cases v with
      | int i =>
        by_cases q : 0 ≤ i
        · simp [q] at en
          simp [en, below, q]
        · simp [q] at en
          simp [en, below, q]
      | _ => simp at en; simp [en, below]) (by omega)
    have eb : ds.map (fun v => D.bl (below v xs.length)) = Bs (ds.map fun d => below d xs.length) := by
      unfold Bs
      rw [List.map_map]
      rfl
    rw [eb] at e
    simp [D_is_tour, m_is_tour, tourB, e]
  | _ => simp [D_is_tour, m_is_tour, tourB, tyN]
abbrev jn (l : List Nat) : List Int := l.map fun (k : Nat) => (k : Int)
/-- sizes at the looks -/
def pk (zs : List Int) (tr : List Nat) : List Int := tr.map fun k => zs.getD k 0
def refX (w : Str) : Exc := ⟨"NotUsable", [("at", .int (-1)), ("word", .str w)]⟩
theorem tourB_ok {n : Nat} : ∀ {tr : List Nat}, (∀ k ∈ tr, k < n) → tourB n (.tup (I (jn tr))) = true
  | [], _ => rfl
  | k :: tr, h => by
    have ih := tourB_ok (tr := tr) fun j m => h j (List.mem_cons_of_mem _ m)
    have hk := h k List.mem_cons_self
    simp only [tourB, jn, List.map_cons, I_cons, List.all_cons, id] at ih ⊢
    rw [ih]
    simp [below]
    omega
theorem e_is_view {zs : List Int} {tr : List Nat} (hz : zs.length ≤ 100) (ht : ∀ k ∈ tr, k < zs.length) (hl : tr.length ≤ 100) (d : D) (hd : Few d) : D_is_view [T zs, T (jn tr), .d d] = .ok (.d (.bl (rowB (pk zs tr) d))) [some (T zs), some (T (jn tr)), some (.d d)] := by
  have e1 := e_is_tour (xs := zs) (.tup (I (jn tr))) (fun ds h => by cases h; simp; omega)
  rw [tourB_ok ht] at e1
  have e2 := compL_map (vs := [3]) (g := gN 3) (c := mYes) (m := mOp oIx [.nm 0, .nm 3]) (e := [some (T zs), some (T (jn tr)), some (.d d), none]) (fun v => match v with | .int i => .int (zs.getD i.toNat 0) | _ => .non) (I (jn tr)) (fun v hv => by
    obtain ⟨i, hi, rfl⟩ := I_mem hv
    obtain ⟨k, hk, rfl⟩ := List.mem_map.mp hi
    have lt := ht k hk
    refine ⟨_, _, [some (T zs), some (T (jn tr)), some (.d d), some (N k)], rfl, rfl, ?_, rfl⟩
    obtain ⟨z, g⟩ : ∃ z, zs[k]? = some z := ⟨_, List.getElem?_eq_getElem lt⟩
    simp [g]) (by simp; omega)
  have eb : (I (jn tr)).map (fun v => match v with | .int i => D.int (zs.getD i.toNat 0) | _ => .non) = I (pk zs tr) := by
    unfold I jn pk
    rw [List.map_map, List.map_map, List.map_map]
    rfl
  rw [eb] at e2
  have pl : (pk zs tr).length = tr.length := by unfold pk; simp
  have e3 := e_is_row (xs := pk zs tr) (by omega) d hd
  have g : (pk zs tr).length ≤ 16777216 := by omega
  generalize pk zs tr = P at *
  simp [D_is_view, m_is_view, e1, e2, e3, g]
end K24
end
section
set_option Elab.async false
set_option linter.all false
set_option maxRecDepth 100000
set_option maxHeartbeats 4000000
namespace K24
open PySem PySem.Spec L2 L2H Dn K24M
open PyProof.Rows hiding St
abbrev Sp := List (List Int × Int)
def spD (sp : Sp) : List D := sp.map fun s => .tup [.tup (I s.1), .int s.2]
abbrev lfO (zs : List Int) (sp : Sp) : O := .d (.tup [.tup (I zs), .tup (spD sp)])
def row (sp : Sp) (m : Nat) : List Int := (sp.getD m ([], 0)).1
def stg (sp : Sp) (m : Nat) : Int := (sp.getD m ([], 0)).2
def sh (sp : Sp) (m d : Nat) : Int := (row sp m).getD d 0
structure Lf (zs : List Int) (sp : Sp) : Prop where
  z1 : 1 ≤ zs.length
  z3 : zs.length ≤ 3
  zb : ∀ z ∈ zs, 2 ≤ z ∧ z ≤ 4
  s1 : 1 ≤ sp.length
  s61 : sp.length ≤ 61
  rows : ∀ s ∈ sp, RowOk zs s.1
/-- stages go on by one, or not -/
structure Sg (sp : Sp) : Prop where
  st0 : stg sp 0 = 0
  stp : ∀ m, m + 1 < sp.length → stg sp (m + 1) = stg sp m ∨ stg sp (m + 1) = stg sp m + 1
theorem spD_len (sp : Sp) : (spD sp).length = sp.length := List.length_map _
theorem spD_get {sp : Sp} {m : Nat} (h : m < sp.length) : (spD sp)[m]? = some (.tup [.tup (I (row sp m)), .int (stg sp m)]) := by
  unfold spD row stg
  rw [List.getElem?_map, List.getD_eq_getElem?_getD, List.getElem?_eq_getElem h]
  rfl
theorem Lf.row_ok {zs : List Int} {sp : Sp} (h : Lf zs sp) {m : Nat} (hm : m < sp.length) : RowOk zs (row sp m) := by
  have e : sp.getD m ([], 0) = sp[m] := by
    rw [List.getD_eq_getElem?_getD, List.getElem?_eq_getElem hm]
    rfl
  unfold row
  rw [e]
  exact h.rows _ (List.getElem_mem hm)
theorem row_get {zs : List Int} {sp : Sp} (h : Lf zs sp) {m d : Nat} (hm : m < sp.length) (hd : d < zs.length) : (row sp m)[d]? = some (sh sp m d) := by
  have l := (h.row_ok hm).len
  unfold sh
  rw [List.getD_eq_getElem?_getD, List.getElem?_eq_getElem (by omega)]
  rfl
theorem lf0 (zs : List Int) (sp : Sp) : atO (lfO zs sp) (0 : Int) = some (.tup (I zs)) := rfl
theorem lf1 (zs : List Int) (sp : Sp) : atO (lfO zs sp) (1 : Int) = some (.tup (spD sp)) := rfl
theorem p2_0 (x y : D) : atO (.d (.tup [x, y])) (0 : Int) = some x := rfl
theorem p2_1 (x y : D) : atO (.d (.tup [x, y])) (1 : Int) = some y := rfl
/-- what a look asks of a moment -/
def pd (sp : Sp) (d : Nat) (v : Int) : Pd := fun m => decide (sh sp m d = v)
def oN : Option Nat → D
  | some k => .int k
  | none => .non
def cOn : Dn.Env → Rs Bool := mTAnd (mB (mOp oLt [.nm 3, .ex (mOp oLen [.nm 4])])) (mB (mOp (oEq true) [.ex (mOp oIx [.ex (mOp oIx [.ex (mOp oIx [.nm 4, .nm 3]), .ex (mC (.int 0))]), .nm 1]), .nm 2]))
theorem on_loop {zs : List Int} {sp : Sp} (h : Lf zs sp) {d : Nat} (hd : d < zs.length) (v : Int) (o0 : Option O) : ∀ (f m : Nat), sp.length - m < f → m ≤ sp.length →
    loopW cOn (mAug 3 oAdd (mC (.int 1))) f [o0, some (N d), some (N v), some (N m), some (.d (.tup (spD sp)))] = .nx [o0, some (N d), some (N v), some (N (((on sp.length (pd sp d v) m).getD sp.length : Nat) : Int)), some (.d (.tup (spD sp)))]
  | 0, m, hf, _ => by omega
  | f + 1, m, hf, hm => by
    have sl := spD_len sp
    rw [loopW_succ]
    by_cases q : m < sp.length
    · have g := spD_get q
      have r := row_get h q hd
      by_cases z : sh sp m d = v
      · have e : on sp.length (pd sp d v) m = some m := on_of (Nat.le_refl _) q (by simp [pd, z]) fun j a b => by omega
        rw [e]
        simp [cOn, sl, q, ↓g, p2_0, ↓r, z]
      · have e : on sp.length (pd sp d v) m = on sp.length (pd sp d v) (m + 1) := on_step q (by simp [pd, z])
        rw [e, ← on_loop h hd v o0 f (m + 1) (by omega) (by omega)]
        simp [cOn, sl, q, ↓g, p2_0, ↓r, z]
    · have e : on sp.length (pd sp d v) m = none := on_no fun j a b => by omega
      have e2 : m = sp.length := by omega
      rw [e]
      simp [cOn, sl, q]
      omega
theorem e_moment_on {zs : List Int} {sp : Sp} (h : Lf zs sp) {d m : Nat} (hd : d < zs.length) (hm : m ≤ sp.length) (v : Int) :
    D_moment_on [lfO zs sp, N d, N v, N m] = .ok (.d (oN (on sp.length (pd sp d v) m))) [some (lfO zs sp), some (N d), some (N v), none] := by
  have l1 := lf1 zs sp
  have s61 := h.s61
  have sl := spD_len sp
  have e := on_loop h hd v (some (lfO zs sp)) 1000 m (by omega) hm
  unfold cOn at e
  cases q : on sp.length (pd sp d v) m with
  | some k =>
    obtain ⟨-, k1, -, -⟩ := on_some q
    rw [q] at e
    simp at e
    simp [D_moment_on, m_moment_on, fuel_moment_on_1, l1, e, sl, k1, oN]
  | none =>
    rw [q] at e
    simp at e
    simp [D_moment_on, m_moment_on, fuel_moment_on_1, l1, e, sl, oN]
end K24
end
section
set_option Elab.async false
set_option linter.all false
set_option maxRecDepth 100000
set_option maxHeartbeats 4000000
namespace K24
open PySem PySem.Spec L2 L2H Dn K24M
open PyProof.Rows hiding St
def bI : Option Nat → Int
  | some k => k
  | none => -1
def cBk : Dn.Env → Rs Bool := mTAnd (mB (mOp oGe [.nm 3, .ex (mC (.int 0))])) (mB (mOp (oEq true) [.ex (mOp oIx [.ex (mOp oIx [.ex (mOp oIx [.nm 4, .nm 3]), .ex (mC (.int 0))]), .nm 1]), .nm 2]))
theorem back_loop {zs : List Int} {sp : Sp} (h : Lf zs sp) {d : Nat} (hd : d < zs.length) (v : Int) (o0 : Option O) : ∀ (f b : Nat), b < f → b ≤ sp.length →
    loopW cBk (mAug 3 oSub (mC (.int 1))) f [o0, some (N d), some (N v), some (N ((b : Int) - 1)), some (.d (.tup (spD sp)))] = .nx [o0, some (N d), some (N v), some (N (bI (bk (pd sp d v) b))), some (.d (.tup (spD sp)))]
  | 0, b, hf, _ => by omega
  | f + 1, 0, hf, hm => by
    rw [loopW_succ]
    simp [cBk, bk, bI]
  | f + 1, b + 1, hf, hm => by
    have sl := spD_len sp
    have q : b < sp.length := by omega
    have g := spD_get q
    have r := row_get h q hd
    have e0 : (((b + 1 : Nat) : Int) - 1) = (b : Int) := by omega
    rw [loopW_succ, bk_succ, e0]
    by_cases z : sh sp b d = v
    · rw [if_pos (by simp [pd, z])]
      simp [cBk, sl, q, ↓g, p2_0, ↓r, z, bI]
    · rw [if_neg (by simp [pd, z]), ← back_loop h hd v o0 f b (by omega) (by omega)]
      simp [cBk, sl, q, ↓g, p2_0, ↓r, z]
theorem e_moment_back {zs : List Int} {sp : Sp} (h : Lf zs sp) {d b : Nat} (hd : d < zs.length) (hb : b ≤ sp.length) (v m : Int) (hm : m = (b : Int) - 1) :
    D_moment_back [lfO zs sp, N d, N v, N m] = .ok (.d (oN (bk (pd sp d v) b))) [some (lfO zs sp), some (N d), some (N v), none] := by
  subst hm
  have l1 := lf1 zs sp
  have s61 := h.s61
  have e := back_loop h hd v (some (lfO zs sp)) 1000 b (by omega) hb
  unfold cBk at e
  cases q : bk (pd sp d v) b with
  | some k =>
    rw [q] at e
    simp [bI] at e
    simp [D_moment_back, m_moment_back, fuel_moment_back_1, l1, e, oN]
  | none =>
    rw [q] at e
    simp [bI] at e
    simp [D_moment_back, m_moment_back, fuel_moment_back_1, l1, e, oN]
/-- the looks -/
def lk (sp : Sp) (tr : List Nat) (vs : List Int) : List Pd := List.zipWith (pd sp) tr vs
/-- a tour of a life with a view -/
structure Tv (zs : List Int) (sp : Sp) (tr : List Nat) (vs : List Int) : Prop where
  lf : Lf zs sp
  t : ∀ k ∈ tr, k < zs.length
  t1 : 1 ≤ tr.length
  t8 : tr.length ≤ 8
  v : RowOk (pk zs tr) vs
theorem Tv.vl {zs : List Int} {sp : Sp} {tr : List Nat} {vs : List Int} (h : Tv zs sp tr vs) : vs.length = tr.length := by
  rw [h.v.len]
  unfold pk
  simp
theorem Tv.ll {zs : List Int} {sp : Sp} {tr : List Nat} {vs : List Int} (h : Tv zs sp tr vs) : (lk sp tr vs).length = tr.length := by
  unfold lk
  rw [List.length_zipWith, h.vl]
  omega
theorem e_asked {zs : List Int} {sp : Sp} {tr : List Nat} {vs : List Int} (h : Tv zs sp tr vs) : D_asked_looks [lfO zs sp, T (jn tr), T vs] = .ok (.d .non) [some (lfO zs sp), some (T (jn tr)), some (T vs)] := by
  have l0 := lf0 zs sp
  have t8 := h.t8
  have z3 := h.lf.z3
  have vl := h.vl
  have e1 := e_is_tour (xs := zs) (.tup (I (jn tr))) (fun ds h => by cases h; simp; omega)
  rw [tourB_ok h.t] at e1
  have e2 := e_is_view (by omega) h.t (by omega) (.tup (I vs)) (fun ds h => by cases h; simp; omega)
  rw [rowB_T h.v] at e2
  have n0 : ¬ (tr.length : Int) = 0 := by have := h.t1; omega
  have n1 : ¬ tr.length = 0 := by have := h.t1; omega
  have n2 : ¬ tr = [] := by rintro rfl; exact n1 rfl
  simp [D_asked_looks, m_asked_looks, l0, e1, e2, n0, n1, n2]
theorem e_asked_tour {zs : List Int} {sp : Sp} {d v : D} (hz : zs.length ≤ 100) (hd : Few d) (hb : tourB zs.length d = false ∨ d = .tup []) : D_asked_looks [lfO zs sp, .d d, .d v] = .exc (refX "tour") [some (lfO zs sp), some (.d d), some (.d v)] := by
  have l0 := lf0 zs sp
  have e1 := e_is_tour (xs := zs) d hd
  rcases hb with hb | rfl
  · rw [hb] at e1
    simp [D_asked_looks, m_asked_looks, l0, e1, refX]
  · have : tourB zs.length (.tup []) = true := rfl
    rw [this] at e1
    simp [D_asked_looks, m_asked_looks, l0, e1, refX]
theorem e_asked_view {zs : List Int} {sp : Sp} {tr : List Nat} {d : D} (hz : zs.length ≤ 100) (ht : ∀ k ∈ tr, k < zs.length) (t1 : 1 ≤ tr.length) (hl : tr.length ≤ 100) (hd : Few d) (hb : rowB (pk zs tr) d = false) : D_asked_looks [lfO zs sp, T (jn tr), .d d] = .exc (refX "view") [some (lfO zs sp), some (T (jn tr)), some (.d d)] := by
  have l0 := lf0 zs sp
  have e1 := e_is_tour (xs := zs) (.tup (I (jn tr))) (fun ds h => by cases h; simp; omega)
  rw [tourB_ok ht] at e1
  have e2 := e_is_view hz ht hl d hd
  rw [hb] at e2
  have n0 : ¬ (tr.length : Int) = 0 := by omega
  have n1 : ¬ tr.length = 0 := by omega
  have n2 : ¬ tr = [] := by rintro rfl; exact n1 rfl
  simp [D_asked_looks, m_asked_looks, l0, e1, e2, n0, n1, n2, refX]
end K24
end
section
set_option Elab.async false
set_option linter.all false
set_option maxRecDepth 100000
set_option maxHeartbeats 4000000
namespace K24
open PySem PySem.Spec L2 L2H Dn K24M
open PyProof.Rows hiding St
def unsX (k : Nat) : Exc := ⟨"Unseen", [("place", .int k)]⟩
def bEa : MS := mSeq (mSet 3 (mCall D_moment_on [.nm 0, .nm 6, .ex (mOp oIx [.nm 2, .nm 5]), .nm 3]))
  (mSeq (mIf (mB (mOp (oIsN false) [.nm 3, .ex (mC .non)])) (mRaise "Unseen" ["place"] [.ex (mN 5)]) (mPass))
  (mExpr (mMut 4 fApp [.ex (mN 3)])))
theorem jn_snoc (a : List Nat) (k : Nat) : jn (a ++ [k]) = jn a ++ [(k : Int)] := by simp [jn]
theorem jn_len (a : List Nat) : (jn a).length = a.length := List.length_map _
theorem early_loop {zs : List Int} {sp : Sp} (h : Lf zs sp) (o1 : Option O) (view : List Int) : ∀ (tr : List Nat) (vs : List Int) (i m : Nat) (acc : List Nat) (w5 w6 : Option O), (∀ k ∈ tr, k < zs.length) → vs.length = tr.length → (∀ j, j < tr.length → view[i + j]? = vs[j]?) → m ≤ sp.length → acc.length + tr.length ≤ 1000 →
    ((gon sp.length (lk sp tr vs) m).length = tr.length → ∃ w3 w5' w6', forL (gT [gN 5, gN 6]) bEa (numD i (I (jn tr))) [some (lfO zs sp), o1, some (T view), some (N m), some (Dn.L (jn acc)), w5, w6] = .nx [some (lfO zs sp), o1, some (T view), w3, some (Dn.L (jn (acc ++ gon sp.length (lk sp tr vs) m))), w5', w6']) ∧
    (¬ (gon sp.length (lk sp tr vs) m).length = tr.length → ∃ w3 w4 w5' w6', forL (gT [gN 5, gN 6]) bEa (numD i (I (jn tr))) [some (lfO zs sp), o1, some (T view), some (N m), some (Dn.L (jn acc)), w5, w6] = .exc (unsX (i + (gon sp.length (lk sp tr vs) m).length)) [some (lfO zs sp), o1, some (T view), w3, w4, w5', w6'])
  | [], [], i, m, acc, w5, w6, _, _, _, _, _ => ⟨fun _ => ⟨some (N m), w5, w6, by simp [lk, gon, numD]⟩, fun z => absurd rfl z⟩
  | d :: tr, v :: vs, i, m, acc, w5, w6, ht, hl, hv, hm, ha => by
    rw [List.length_cons] at ha
    have hd := ht d List.mem_cons_self
    have v0 : view[i]? = some v := by
      have := hv 0 (by simp)
      simpa using this
    have em := e_moment_on h hd hm v
    have el : lk sp (d :: tr) (v :: vs) = pd sp d v :: lk sp tr vs := rfl
    have hg : acc.length < 16000000 := by omega
    rw [el]
    simp only [gon]
    cases q : on sp.length (pd sp d v) m with
    | none =>
      rw [q] at em
      refine ⟨fun z => by simp at z, fun _ => ⟨some (.d .non), some (Dn.L (jn acc)), some (N i), some (N d), ?_⟩⟩
      simp only [oN] at em
      simp [forL_cons, bEa, numD, v0, em, unsX]
    | some k =>
      rw [q] at em
      obtain ⟨-, k1, -, -⟩ := on_some q
      obtain ⟨i1, i2⟩ := early_loop h o1 view tr vs (i + 1) k (acc ++ [k]) (some (N i)) (some (N d)) (fun j hj => ht j (List.mem_cons_of_mem _ hj)) (Nat.succ.inj hl) (fun j hj => by
        have := hv (j + 1) (by simp; omega)
        rw [List.getElem?_cons_succ] at this
        rw [← this]
        congr 1
        omega) (by omega) (by rw [List.length_append, List.length_singleton]; omega)
      simp only [oN] at em
      have ej : jn (acc ++ [k]) = jn acc ++ [(k : Int)] := jn_snoc acc k
      rw [ej] at i1 i2
      have step : ∀ r, forL (gT [gN 5, gN 6]) bEa (numD (i + 1) (I (jn tr))) [some (lfO zs sp), o1, some (T view), some (N k), some (Dn.L (jn acc ++ [(k : Int)])), some (N i), some (N d)] = r → forL (gT [gN 5, gN 6]) bEa (numD i (I (jn (d :: tr)))) [some (lfO zs sp), o1, some (T view), some (N m), some (Dn.L (jn acc)), w5, w6] = r := by
        intro r hr
        rw [← hr]
        have jl : (jn acc).length < 16000000 := by rw [jn_len]; exact hg
        have jc : jn (d :: tr) = (d : Int) :: jn tr := rfl
        rw [jc]
        generalize jn acc = A at *
        simp [forL_cons, bEa, numD, v0, em, jl]
      constructor
      · intro z
        obtain ⟨w3, w5', w6', e⟩ := i1 (Nat.succ.inj z)
        refine ⟨w3, w5', w6', step _ ?_⟩
        rw [e]
        simp
      · intro z
        obtain ⟨w3, w4, w5', w6', e⟩ := i2 (fun y => z (congrArg (· + 1) y))
        refine ⟨w3, w4, w5', w6', step _ ?_⟩
        rw [e, List.length_cons]
        congr 2
        omega
/-- the earliest moments -/
def eg (sp : Sp) (tr : List Nat) (vs : List Int) : List Nat := gon sp.length (lk sp tr vs) 0
/-- the latest ones, from the last look -/
def lg (sp : Sp) (tr : List Nat) (vs : List Int) : List Nat := gbk (lk sp tr vs).reverse sp.length
theorem e_early {zs : List Int} {sp : Sp} {tr : List Nat} {vs : List Int} (h : Tv zs sp tr vs) (hc : (eg sp tr vs).length = tr.length) : D_early_moments [lfO zs sp, T (jn tr), T vs] = .ok (T (jn (eg sp tr vs))) [some (lfO zs sp), some (T (jn tr)), some (T vs)] := by
  have t8 := h.t8
  have ea := e_asked h
  obtain ⟨w3, w5, w6, e⟩ := (early_loop h.lf (some (T (jn tr))) vs tr vs 0 0 [] none none h.t h.vl (fun j _ => by rw [Nat.zero_add]) (by omega) (by simp; omega)).1 hc
  rw [List.nil_append] at e
  have L0 : Dn.L (jn []) = .l [] := rfl
  rw [L0] at e
  unfold bEa at e
  have hE : gon sp.length (lk sp tr vs) 0 = eg sp tr vs := rfl
  rw [hE] at e
  generalize eg sp tr vs = E at *
  simp at e
  simp [D_early_moments, m_early_moments, ea, e]
theorem e_early_x {zs : List Int} {sp : Sp} {tr : List Nat} {vs : List Int} (h : Tv zs sp tr vs) (hc : ¬ (eg sp tr vs).length = tr.length) : D_early_moments [lfO zs sp, T (jn tr), T vs] = .exc (unsX (eg sp tr vs).length) [some (lfO zs sp), some (T (jn tr)), some (T vs)] := by
  have t8 := h.t8
  have ea := e_asked h
  obtain ⟨w3, w4, w5, w6, e⟩ := (early_loop h.lf (some (T (jn tr))) vs tr vs 0 0 [] none none h.t h.vl (fun j _ => by rw [Nat.zero_add]) (by omega) (by simp; omega)).2 hc
  rw [Nat.zero_add] at e
  have L0 : Dn.L (jn []) = .l [] := rfl
  rw [L0] at e
  unfold bEa at e
  have hE : gon sp.length (lk sp tr vs) 0 = eg sp tr vs := rfl
  rw [hE] at e
  generalize eg sp tr vs = E at *
  simp at e
  simp [D_early_moments, m_early_moments, ea, e]
end K24
end
section
set_option Elab.async false
set_option linter.all false
set_option maxRecDepth 100000
set_option maxHeartbeats 4000000
namespace K24
open PySem PySem.Spec L2 L2H Dn K24M
open PyProof.Rows hiding St
def bLa : MS := mSeq (mSet 3 (mCall D_moment_back [.nm 0, .ex (mOp oIx [.nm 1, .nm 5]), .ex (mOp oIx [.nm 2, .nm 5]), .nm 3]))
  (mSeq (mIf (mB (mOp (oIsN false) [.nm 3, .ex (mC .non)])) (mRaise "Unseen" ["place"] [.ex (mN 5)]) (mPass))
  (mExpr (mMut 4 fApp [.ex (mN 3)])))
theorem dn_range (n : Nat) : dnD ((n : Int) - 1) n = I (jn (List.range n).reverse) := by
  unfold dnD I jn
  apply List.ext_getElem?
  intro i
  by_cases q : i < n
  · rw [List.getElem?_map, List.getElem?_range q, List.getElem?_map, List.getElem?_map, List.getElem?_reverse (by simpa using q), List.length_range, List.getElem?_range (by omega)]
    simp
    omega
  · rw [List.getElem?_eq_none (by simp; omega), List.getElem?_eq_none (by simp; omega)]
theorem jn_get {l : List Nat} {j k : Nat} (h : l[j]? = some k) : (jn l)[j]? = some (k : Int) := by
  unfold jn
  rw [List.getElem?_map, h]
  rfl
theorem Tv.at_ {zs : List Int} {sp : Sp} {tr : List Nat} {vs : List Int} (h : Tv zs sp tr vs) {j : Nat} (hj : j < tr.length) : ∃ d v, tr[j]? = some d ∧ vs[j]? = some v ∧ d < zs.length ∧ (lk sp tr vs).take (j + 1) = (lk sp tr vs).take j ++ [pd sp d v] := by
  have hv : j < vs.length := by rw [h.vl]; exact hj
  refine ⟨tr[j], vs[j], List.getElem?_eq_getElem hj, List.getElem?_eq_getElem hv, h.t _ (List.getElem_mem hj), ?_⟩
  unfold lk
  have hl : j < (List.zipWith (pd sp) tr vs).length := by rw [List.length_zipWith]; omega
  rw [List.take_succ, List.getElem?_eq_getElem hl, List.getElem_zipWith]
  rfl
/-- the looks below j, from the last one -/
def rk (sp : Sp) (tr : List Nat) (vs : List Int) (j : Nat) : List Pd := ((lk sp tr vs).take j).reverse
theorem rk_succ {zs : List Int} {sp : Sp} {tr : List Nat} {vs : List Int} (h : Tv zs sp tr vs) {j : Nat} (hj : j < tr.length) : ∃ d v, tr[j]? = some d ∧ vs[j]? = some v ∧ d < zs.length ∧ rk sp tr vs (j + 1) = pd sp d v :: rk sp tr vs j := by
  obtain ⟨d, v, h1, h2, h3, h4⟩ := h.at_ hj
  refine ⟨d, v, h1, h2, h3, ?_⟩
  unfold rk
  rw [h4, List.reverse_append]
  rfl
theorem late_loop {zs : List Int} {sp : Sp} {tr : List Nat} {vs : List Int} (h : Tv zs sp tr vs) : ∀ (j b : Nat) (acc : List Nat) (w5 : Option O), j ≤ tr.length → b ≤ sp.length → acc.length + j ≤ 1000 →
    ((gbk (rk sp tr vs j) b).length = j → ∃ w3 w5', forL (gN 5) bLa (I (jn (List.range j).reverse)) [some (lfO zs sp), some (T (jn tr)), some (T vs), some (N ((b : Int) - 1)), some (Dn.L (jn acc)), w5] = .nx [some (lfO zs sp), some (T (jn tr)), some (T vs), w3, some (Dn.L (jn (acc ++ gbk (rk sp tr vs j) b))), w5']) ∧
    (¬ (gbk (rk sp tr vs j) b).length = j → ∃ w3 w4 w5', forL (gN 5) bLa (I (jn (List.range j).reverse)) [some (lfO zs sp), some (T (jn tr)), some (T vs), some (N ((b : Int) - 1)), some (Dn.L (jn acc)), w5] = .exc (unsX (j - 1 - (gbk (rk sp tr vs j) b).length)) [some (lfO zs sp), some (T (jn tr)), some (T vs), w3, w4, w5'])
  | 0, b, acc, w5, _, _, _ => ⟨fun _ => ⟨some (N ((b : Int) - 1)), w5, by simp [rk, gbk, jn]⟩, fun z => absurd rfl z⟩
  | j + 1, b, acc, w5, hj, hb, ha => by
    obtain ⟨d, v, h1, h2, h3, h4⟩ := rk_succ h (show j < tr.length by omega)
    have em := e_moment_back h.lf h3 hb v ((b : Int) - 1) rfl
    have t1 := jn_get h1
    have hg : acc.length < 16000000 := by omega
    have er : (List.range (j + 1)).reverse = j :: (List.range j).reverse := by
      rw [List.range_succ, List.reverse_append]
      rfl
    have jc : jn (j :: (List.range j).reverse) = (j : Int) :: jn (List.range j).reverse := rfl
    rw [h4, er, jc]
    have gl := gbk_len (rk sp tr vs j)
    have rl : (rk sp tr vs j).length = j := by
      unfold rk
      rw [List.length_reverse, List.length_take, h.ll]
      omega
    simp only [gbk]
    cases q : bk (pd sp d v) b with
    | none =>
      rw [q] at em
      refine ⟨fun z => by simp at z, fun _ => ⟨some (.d .non), some (Dn.L (jn acc)), some (N j), ?_⟩⟩
      simp only [oN] at em
      generalize jn tr = TR at *
      simp [forL_cons, bLa, t1, h2, em, unsX]
    | some k =>
      rw [q] at em
      obtain ⟨k1, -, -⟩ := bk_some q
      obtain ⟨i1, i2⟩ := late_loop h j (k + 1) (acc ++ [k]) (some (N j)) (by omega) (by omega) (by rw [List.length_append, List.length_singleton]; omega)
      simp only [oN] at em
      have e0 : (((k + 1 : Nat) : Int) - 1) = (k : Int) := by omega
      have ej : jn (acc ++ [k]) = jn acc ++ [(k : Int)] := jn_snoc acc k
      rw [e0, ej] at i1 i2
      have step : ∀ r, forL (gN 5) bLa (I (jn (List.range j).reverse)) [some (lfO zs sp), some (T (jn tr)), some (T vs), some (N k), some (Dn.L (jn acc ++ [(k : Int)])), some (N j)] = r → forL (gN 5) bLa (I ((j : Int) :: jn (List.range j).reverse)) [some (lfO zs sp), some (T (jn tr)), some (T vs), some (N ((b : Int) - 1)), some (Dn.L (jn acc)), w5] = r := by
        intro r hr
        rw [← hr]
        have jl : (jn acc).length < 16000000 := by rw [jn_len]; exact hg
        generalize jn acc = A at *
        generalize jn (List.range j).reverse = RR at *
        generalize jn tr = TR at *
        simp [forL_cons, bLa, t1, h2, em, jl]
      constructor
      · intro z
        obtain ⟨w3, w5', e⟩ := i1 (Nat.succ.inj z)
        refine ⟨w3, w5', step _ ?_⟩
        rw [e]
        simp
      · intro z
        have z2 : ¬ (gbk (rk sp tr vs j) (k + 1)).length = j := fun y => z (congrArg (· + 1) y)
        obtain ⟨w3, w4, w5', e⟩ := i2 z2
        refine ⟨w3, w4, w5', step _ ?_⟩
        have gk := gbk_len (rk sp tr vs j) (k + 1)
        rw [e, List.length_cons]
        congr 2
        omega
theorem rk_all {zs : List Int} {sp : Sp} {tr : List Nat} {vs : List Int} (h : Tv zs sp tr vs) : rk sp tr vs tr.length = (lk sp tr vs).reverse := by
  unfold rk
  rw [List.take_of_length_le (by rw [h.ll]; omega)]
theorem rv_L (ns : List Int) : toRv (Dn.L ns) = some (Dn.L ns.reverse) := by
  have : lstF (Dn.L ns) = some (I ns) := allD_map _
  show ((lstF (Dn.L ns)).map fun xs => O.l (xs.reverse.map O.d)) = _
  rw [this]
  show some (O.l ((I ns).reverse.map O.d)) = _
  rw [I_reverse]
theorem jn_rev (l : List Nat) : (jn l).reverse = jn l.reverse := List.map_reverse.symm
theorem e_late {zs : List Int} {sp : Sp} {tr : List Nat} {vs : List Int} (h : Tv zs sp tr vs) (hc : (lg sp tr vs).length = tr.length) : D_late_moments [lfO zs sp, T (jn tr), T vs] = .ok (T (jn (lg sp tr vs).reverse)) [some (lfO zs sp), some (T (jn tr)), some (T vs)] := by
  have t8 := h.t8
  have ea := e_asked h
  have s61 := h.lf.s61
  have l1 := lf1 zs sp
  have sl := spD_len sp
  have il := late_loop h tr.length sp.length [] none (Nat.le_refl _) (Nat.le_refl _) (by simp; omega)
  rw [rk_all h] at il
  obtain ⟨w3, w5, e⟩ := il.1 hc
  rw [List.nil_append, ← dn_range] at e
  have L0 : Dn.L (jn []) = .l [] := rfl
  rw [L0] at e
  unfold bLa at e
  have hE : gbk (lk sp tr vs).reverse sp.length = lg sp tr vs := rfl
  rw [hE] at e
  have rv := rv_L (jn (lg sp tr vs))
  rw [jn_rev] at rv
  have tl : ((tr.length : Int) - 1 - -1).toNat = tr.length := by omega
  have c1 : (-4611686018427387904 : Int) ≤ (tr.length : Int) - 1 ∧ (tr.length : Int) - 1 < 4611686018427387904 := by omega
  have jl := jn_len tr
  generalize lg sp tr vs = E at *
  have tl2 : ((tr.length : Int) - 1 + 1).toNat = tr.length := by omega
  simp at e rv
  simp [D_late_moments, m_late_moments, ea, l1, sl, jl, c1, tl, tl2, e, rv]
theorem e_late_x {zs : List Int} {sp : Sp} {tr : List Nat} {vs : List Int} (h : Tv zs sp tr vs) (hc : ¬ (lg sp tr vs).length = tr.length) : D_late_moments [lfO zs sp, T (jn tr), T vs] = .exc (unsX (tr.length - 1 - (lg sp tr vs).length)) [some (lfO zs sp), some (T (jn tr)), some (T vs)] := by
  have t8 := h.t8
  have ea := e_asked h
  have s61 := h.lf.s61
  have l1 := lf1 zs sp
  have sl := spD_len sp
  have il := late_loop h tr.length sp.length [] none (Nat.le_refl _) (Nat.le_refl _) (by simp; omega)
  rw [rk_all h] at il
  obtain ⟨w3, w4, w5, e⟩ := il.2 hc
  rw [← dn_range] at e
  have L0 : Dn.L (jn []) = .l [] := rfl
  rw [L0] at e
  unfold bLa at e
  have hE : gbk (lk sp tr vs).reverse sp.length = lg sp tr vs := rfl
  rw [hE] at e
  have tl : ((tr.length : Int) - 1 - -1).toNat = tr.length := by omega
  have c1 : (-4611686018427387904 : Int) ≤ (tr.length : Int) - 1 ∧ (tr.length : Int) - 1 < 4611686018427387904 := by omega
  have jl := jn_len tr
  generalize lg sp tr vs = E at *
  have tl2 : ((tr.length : Int) - 1 + 1).toNat = tr.length := by omega
  simp [D_late_moments, m_late_moments, ea, l1, sl, jl, c1, tl, tl2, e]
end K24
end
section
set_option Elab.async false
set_option linter.all false
set_option maxRecDepth 100000
set_option maxHeartbeats 4000000
namespace K24
open PySem PySem.Spec L2 L2H Dn K24M
open PyProof.Rows hiding St
theorem at_last {xs : List D} {x : D} (h : xs.getLast? = some x) : atI xs (-1) = some x := by
  have hne : xs ≠ [] := by rintro rfl; cases h
  have hl : 1 ≤ xs.length := by
    cases xs with
    | nil => exact absurd rfl hne
    | cons => simp
  rw [List.getLast?_eq_getElem?] at h
  unfold atI ixN
  rw [if_neg (by decide), if_pos (by omega)]
  have e : (-1 + (xs.length : Int)).toNat = xs.length - 1 := by omega
  simp
  rw [e]
  exact h
theorem seen_iff {zs : List Int} {sp : Sp} {tr : List Nat} {vs : List Int} (h : Tv zs sp tr vs) : (eg sp tr vs).length = tr.length ↔ (lg sp tr vs).length = tr.length := by
  have a := Wt.gon (hi := sp.length) (ps := lk sp tr vs) (lo := 0)
  have b := Wt.gbk (lo := 0) (ps := (lk sp tr vs).reverse) (hi := sp.length)
  rw [List.reverse_reverse, a, List.length_reverse, h.ll] at b
  unfold eg lg
  exact ⟨fun z => (b.mp z).1, fun z => b.mpr ⟨z, fun _ _ => Nat.zero_le _⟩⟩
/-- the last of the earliest, the first of the latest moments -/
structure En (sp : Sp) (tr : List Nat) (vs : List Int) (x y : Nat) : Prop where
  ex : (eg sp tr vs).getLast? = some x
  ly : (lg sp tr vs).getLast? = some y
  xl : x < sp.length
  yl : y < sp.length
theorem last_of {l : List Nat} (h : 1 ≤ l.length) : ∃ x, l.getLast? = some x ∧ x ∈ l := by
  cases l with
  | nil => simp at h
  | cons a r => exact ⟨_, List.getLast?_eq_some_getLast (by simp), List.getLast_mem _⟩
theorem Tv.en {zs : List Int} {sp : Sp} {tr : List Nat} {vs : List Int} (h : Tv zs sp tr vs) (hc : (eg sp tr vs).length = tr.length) : ∃ x y, En sp tr vs x y := by
  have hl := (seen_iff h).mp hc
  have t1 := h.t1
  obtain ⟨x, ex, mx⟩ := last_of (l := eg sp tr vs) (by omega)
  obtain ⟨y, ey, my⟩ := last_of (l := lg sp tr vs) (by omega)
  exact ⟨x, y, ex, ey, (gon_mem mx).2, gbk_mem my⟩
theorem jn_last {l : List Nat} {x : Nat} (h : l.getLast? = some x) : (I (jn l)).getLast? = some (.int x) := by
  unfold I jn
  rw [List.getLast?_map, List.getLast?_map, h]
  rfl
theorem rev_first {l : List Nat} {x : Nat} (h : l.getLast? = some x) : (jn l.reverse)[0]? = some (x : Int) := by
  refine jn_get ?_
  rw [← List.head?_eq_getElem?, List.head?_reverse]
  exact h
def spanD (lo hi : Int) : D := if hi < lo then .non else .tup [.int lo, .int hi]
theorem e_span {zs : List Int} {sp : Sp} {tr : List Nat} {vs : List Int} {x y : Nat} (h : Tv zs sp tr vs) (hc : (eg sp tr vs).length = tr.length) (en : En sp tr vs x y) : D_life_span [lfO zs sp, T (jn tr), T vs] = .ok (.d (spanD (stg sp y) (stg sp x))) [some (lfO zs sp), some (T (jn tr)), some (T vs)] := by
  have e1 := e_early h hc
  have e2 := e_late h ((seen_iff h).mp hc)
  have l1 := lf1 zs sp
  have a1 := at_last (jn_last en.ex)
  have a0 := rev_first en.ly
  have gx := spD_get en.xl
  have gy := spD_get en.yl
  generalize jn (lg sp tr vs).reverse = LR at *
  generalize jn (eg sp tr vs) = ER at *
  generalize spD sp = SD at *
  by_cases q : stg sp x < stg sp y
  · simp [D_life_span, m_life_span, e1, e2, l1, a1, a0, gx, gy, p2_1, spanD, q]
  · simp [D_life_span, m_life_span, e1, e2, l1, a1, a0, gx, gy, p2_1, spanD, q]
theorem e_span_x {zs : List Int} {sp : Sp} {tr : List Nat} {vs : List Int} (h : Tv zs sp tr vs) (hc : ¬ (eg sp tr vs).length = tr.length) : D_life_span [lfO zs sp, T (jn tr), T vs] = .exc (unsX (eg sp tr vs).length) [some (lfO zs sp), some (T (jn tr)), some (T vs)] := by
  have e1 := e_early_x h hc
  simp [D_life_span, m_life_span, e1]
theorem e_paper {zs : List Int} {sp : Sp} {tr : List Nat} {vs : List Int} (h : Tv zs sp tr vs) (hc : (eg sp tr vs).length = tr.length) : D_answer_paper [lfO zs sp, T (jn tr), T vs] = .ok (.d (.tup [.tup (I (jn (eg sp tr vs))), .tup (I (jn (lg sp tr vs).reverse))])) [some (lfO zs sp), some (T (jn tr)), some (T vs)] := by
  have e1 := e_early h hc
  have e2 := e_late h ((seen_iff h).mp hc)
  simp [D_answer_paper, m_answer_paper, e1, e2]
theorem e_paper_x {zs : List Int} {sp : Sp} {tr : List Nat} {vs : List Int} (h : Tv zs sp tr vs) (hc : ¬ (eg sp tr vs).length = tr.length) : D_answer_paper [lfO zs sp, T (jn tr), T vs] = .exc (unsX (eg sp tr vs).length) [some (lfO zs sp), some (T (jn tr)), some (T vs)] := by
  have e1 := e_early_x h hc
  simp [D_answer_paper, m_answer_paper, e1]
/-! what is refused -/
section
variable {zs : List Int} {sp : Sp} {d v : D} {w : Str} {os : Dn.Env}
theorem x_early (e : D_asked_looks [lfO zs sp, .d d, .d v] = .exc (refX w) [some (lfO zs sp), some (.d d), some (.d v)]) : D_early_moments [lfO zs sp, .d d, .d v] = .exc (refX w) [some (lfO zs sp), some (.d d), some (.d v)] := by
  simp [D_early_moments, m_early_moments, e]
theorem x_late (e : D_asked_looks [lfO zs sp, .d d, .d v] = .exc (refX w) [some (lfO zs sp), some (.d d), some (.d v)]) : D_late_moments [lfO zs sp, .d d, .d v] = .exc (refX w) [some (lfO zs sp), some (.d d), some (.d v)] := by
  simp [D_late_moments, m_late_moments, e]
theorem x_span (e : D_asked_looks [lfO zs sp, .d d, .d v] = .exc (refX w) [some (lfO zs sp), some (.d d), some (.d v)]) : D_life_span [lfO zs sp, .d d, .d v] = .exc (refX w) [some (lfO zs sp), some (.d d), some (.d v)] := by
  have e1 := x_early e
  simp [D_life_span, m_life_span, e1]
theorem x_paper (e : D_asked_looks [lfO zs sp, .d d, .d v] = .exc (refX w) [some (lfO zs sp), some (.d d), some (.d v)]) : D_answer_paper [lfO zs sp, .d d, .d v] = .exc (refX w) [some (lfO zs sp), some (.d d), some (.d v)] := by
  have e1 := x_early e
  simp [D_answer_paper, m_answer_paper, e1]
theorem x_lets (t : D) (e : D_asked_looks [lfO zs sp, .d d, .d v] = .exc (refX w) [some (lfO zs sp), some (.d d), some (.d v)]) : D_lets_answer [lfO zs sp, .d d, .d v, .d t] = .exc (refX w) [some (lfO zs sp), some (.d d), some (.d v), some (.d t)] := by
  simp [D_lets_answer, m_lets_answer, e]
end
end K24
end
section
set_option Elab.async false
set_option linter.all false
set_option maxRecDepth 100000
set_option maxHeartbeats 4000000
namespace K24
open PySem PySem.Spec L2 L2H Dn K24M
open PyProof.Rows hiding St
def momB (n k : Nat) : D → Bool
  | .tup ds => decide (ds.length = k) && (ds.map fun d => below d n).all id
  | _ => false
theorem nums_of {n : Nat} : ∀ {ds : List D}, (ds.map fun d => below d n).all id = true → ∃ A : List Nat, ds = I (jn A) ∧ ∀ a ∈ A, a < n
  | [], _ => ⟨[], rfl, fun _ h => nomatch h⟩
  | d :: ds, h => by
    simp only [List.map_cons, List.all_cons, id, Bool.and_eq_true] at h
    obtain ⟨i, rfl, i0, i1⟩ := below_int h.1
    obtain ⟨A, rfl, hA⟩ := nums_of (ds := ds) (by simpa using h.2)
    obtain ⟨k, rfl⟩ := Int.eq_ofNat_of_zero_le i0
    exact ⟨k :: A, rfl, fun a m => by
      rcases List.mem_cons.mp m with rfl | m
      · omega
      · exact hA a m⟩
theorem momB_of {n k : Nat} {d : D} (h : momB n k d = true) : ∃ A : List Nat, d = .tup (I (jn A)) ∧ A.length = k ∧ ∀ a ∈ A, a < n := by
  cases d with
  | tup ds =>
    simp only [momB, Bool.and_eq_true, decide_eq_true_eq] at h
    obtain ⟨A, rfl, hA⟩ := nums_of h.2
    exact ⟨A, rfl, by rw [← h.1, I_len, jn_len], hA⟩
  | _ => simp [momB] at h
theorem e_are {zs : List Int} {sp : Sp} (h : Lf zs sp) (k : Nat) (d : D) (hd : Few d) : D_are_moments [lfO zs sp, N k, .d d] = .ok (.d (.bl (momB sp.length k d))) [some (lfO zs sp), some (N k), some (.d d)] := by
  have l1 := lf1 zs sp
  have sl := spD_len sp
  cases d with
  | tup ds =>
    have hdl := hd ds rfl
    have e := compL_map (vs := [3]) (g := gN 3) (c := mYes) (m := mAnd (mCall D_is_number [.nm 3]) (mOp oLt [.nm 3, .ex (mOp oLen [.ex (mOp oIx [.nm 0, .ex (mC (.int 1))])])])) (e := [some (lfO zs sp), some (N k), some (.d (.tup ds)), none]) (fun v => .bl (below v sp.length)) ds (fun v hv => by
      refine ⟨_, _, [some (lfO zs sp), some (N k), some (.d (.tup ds)), some (.d v)], rfl, rfl, ?_, rfl⟩
      have en := e_is_number v
      cases v with
      | int i =>
        by_cases q : 0 ≤ i
        · simp [q] at en
          simp [en, below, q, l1, sl]
        · simp [q] at en
          simp [en, below, q]
      | _ => simp at en; simp [en, below]) (by omega)
    have eb : ds.map (fun v => D.bl (below v sp.length)) = Bs (ds.map fun d => below d sp.length) := by
      unfold Bs
      rw [List.map_map]
      rfl
    rw [eb] at e
    by_cases q : ds.length = k
    · have q2 : (ds.length : Int) = k := by omega
      simp [D_are_moments, m_are_moments, momB, q, q2, e]
    · have q2 : ¬ (ds.length : Int) = k := by omega
      simp [D_are_moments, m_are_moments, momB, q, q2]
  | _ => simp [D_are_moments, m_are_moments, momB, tyN]
/-- the first place at which the second list is not as the first -/
def mis : List Nat → List Nat → Option Nat
  | _, [] => none
  | [], _ :: _ => some 0
  | e :: E, a :: A => if e = a then (mis E A).map (· + 1) else some 0
theorem mis_nil (E : List Nat) : mis E [] = none := by cases E <;> rfl
theorem mis_none : ∀ {E A : List Nat}, mis E A = none → E.length ≤ A.length → E = A
  | E, [], _, h => List.eq_nil_of_length_eq_zero (by simpa using h)
  | [], _ :: _, h, _ => by cases h
  | e :: E, a :: A, h, hl => by
    unfold mis at h
    by_cases q : e = a
    · rw [if_pos q] at h
      cases z : mis E A with
      | none => rw [mis_none z (Nat.le_of_succ_le_succ hl), q]
      | some i => rw [z] at h; cases h
    · rw [if_neg q] at h
      cases h
theorem mis_lt : ∀ {E A : List Nat} {i : Nat}, mis E A = some i → i < A.length
  | E, [], _, h => by rw [mis_nil] at h; cases h
  | [], _ :: _, i, h => by cases h; simp
  | e :: E, a :: A, i, h => by
    unfold mis at h
    by_cases q : e = a
    · rw [if_pos q] at h
      cases z : mis E A with
      | none => rw [z] at h; cases h
      | some j =>
        rw [z] at h
        cases h
        exact Nat.succ_lt_succ (mis_lt z)
    · rw [if_neg q] at h
      cases h
      simp
def invX (w : Str) (i : Int) : Exc := ⟨"InvalidPaper", [("at", .int i), ("word", .str w)]⟩
theorem oEq_ni (i : Int) : oEq true [.d .non, .d (.int i)] = some (.d (.bl true)) := by
  simp [oEq, frz_d, SeqAt.shaped, Dn.pd, PyData.canLay0, PyData.depth, deq, PyData.eqv]
def bP1 : MS := mSeq (mIf (mB (mOp (oEq true) [.ex (mCall D_moment_on [.nm 0, .nm 8, .ex (mOp oIx [.nm 2, .nm 7]), .nm 6]), .ex (mOp oIx [.nm 4, .nm 7])])) (mRaise "InvalidPaper" ["word", "at"] [.ex (mC (.str "early")), .ex (mN 7)]) (mPass))
  (mSet 6 (mOp oIx [.nm 4, .nm 7]))
theorem p1_loop {zs : List Int} {sp : Sp} (h : Lf zs sp) (o1 o3 o5 : Option O) (view : List Int) (AA : List Nat) : ∀ (tr : List Nat) (vs : List Int) (A : List Nat) (i m : Nat) (w7 w8 : Option O), (∀ k ∈ tr, k < zs.length) → vs.length = tr.length → A.length = tr.length → (∀ j, j < tr.length → view[i + j]? = vs[j]? ∧ AA[i + j]? = A[j]?) → m ≤ sp.length → (∀ a ∈ A, a < sp.length) →
    (mis (gon sp.length (lk sp tr vs) m) A = none → ∃ w6 w7' w8', forL (gT [gN 7, gN 8]) bP1 (numD i (I (jn tr))) [some (lfO zs sp), o1, some (T view), o3, some (T (jn AA)), o5, some (N m), w7, w8] = .nx [some (lfO zs sp), o1, some (T view), o3, some (T (jn AA)), o5, w6, w7', w8']) ∧
    (∀ e, mis (gon sp.length (lk sp tr vs) m) A = some e → ∃ w6 w7' w8', forL (gT [gN 7, gN 8]) bP1 (numD i (I (jn tr))) [some (lfO zs sp), o1, some (T view), o3, some (T (jn AA)), o5, some (N m), w7, w8] = .exc (invX "early" ((i + e : Nat) : Int)) [some (lfO zs sp), o1, some (T view), o3, some (T (jn AA)), o5, w6, w7', w8'])
  | [], [], [], i, m, w7, w8, _, _, _, _, _, _ => ⟨fun _ => ⟨some (N m), w7, w8, by simp [numD]⟩, fun e z => by cases z⟩
  | d :: tr, v :: vs, a :: A, i, m, w7, w8, ht, hl, hA, hv, hm, hb => by
    have hd := ht d List.mem_cons_self
    have v0 : view[i]? = some v := by
      have := (hv 0 (by simp)).1
      simpa using this
    have a0 : AA[i]? = some a := by
      have := (hv 0 (by simp)).2
      simpa using this
    have a1 := jn_get a0
    have em := e_moment_on h hd hm v
    have an := hb a List.mem_cons_self
    have el : lk sp (d :: tr) (v :: vs) = pd sp d v :: lk sp tr vs := rfl
    have jc : jn (d :: tr) = (d : Int) :: jn tr := rfl
    have oni := oEq_ni a
    rw [el, jc]
    simp only [gon]
    obtain ⟨AJ, hAJ⟩ : ∃ AJ, AJ = jn AA := ⟨_, rfl⟩
    rw [← hAJ] at a1 ⊢
    cases q : on sp.length (pd sp d v) m with
    | none =>
      rw [q] at em
      simp only [oN] at em
      refine ⟨fun z => by simp [mis] at z, fun e z => ⟨some (N m), some (N i), some (N d), ?_⟩⟩
      simp [mis] at z
      subst z
      simp [forL_cons, bP1, numD, v0, a1, em, oni, invX]
    | some k =>
      rw [q] at em
      simp only [oN] at em
      by_cases ka : k = a
      · subst ka
        have i12 := p1_loop h o1 o3 o5 view AA tr vs A (i + 1) k (some (N i)) (some (N d)) (fun j hj => ht j (List.mem_cons_of_mem _ hj)) (Nat.succ.inj hl) (Nat.succ.inj hA) (fun j hj => by
          have := hv (j + 1) (by simp; omega)
          rw [List.getElem?_cons_succ, List.getElem?_cons_succ] at this
          rw [← this.1, ← this.2, show i + 1 + j = i + (j + 1) by omega]
          exact ⟨rfl, rfl⟩) (by omega) (fun x hx => hb x (List.mem_cons_of_mem _ hx))
        rw [← hAJ] at i12
        obtain ⟨i1, i2⟩ := i12
        have step : ∀ r, forL (gT [gN 7, gN 8]) bP1 (numD (i + 1) (I (jn tr))) [some (lfO zs sp), o1, some (T view), o3, some (T AJ), o5, some (N k), some (N i), some (N d)] = r → forL (gT [gN 7, gN 8]) bP1 (numD i (I ((d : Int) :: jn tr))) [some (lfO zs sp), o1, some (T view), o3, some (T AJ), o5, some (N m), w7, w8] = r := by
          intro r hr
          rw [← hr]
          simp [forL_cons, bP1, numD, v0, a1, em]
        constructor
        · intro z
          simp [mis] at z
          obtain ⟨w6, w7', w8', e⟩ := i1 z
          exact ⟨w6, w7', w8', step _ e⟩
        · intro e z
          simp [mis] at z
          obtain ⟨j, zj, rfl⟩ := z
          obtain ⟨w6, w7', w8', e⟩ := i2 j zj
          refine ⟨w6, w7', w8', step _ ?_⟩
          rw [e]
          congr 2
          omega
      · refine ⟨fun z => by simp [mis, ka] at z, fun e z => ⟨some (N m), some (N i), some (N d), ?_⟩⟩
        simp [mis, ka] at z
        subst z
        have ka2 : ¬ (k : Int) = a := by omega
        simp [forL_cons, bP1, numD, v0, a1, em, ka, ka2, invX]
end K24
end
section
set_option Elab.async false
set_option linter.all false
set_option maxRecDepth 100000
set_option maxHeartbeats 4000000
namespace K24
open PySem PySem.Spec L2 L2H Dn K24M
open PyProof.Rows hiding St
def bP2 : MS := mSeq (mIf (mB (mOp (oEq true) [.ex (mCall D_moment_back [.nm 0, .ex (mOp oIx [.nm 1, .nm 7]), .ex (mOp oIx [.nm 2, .nm 7]), .nm 6]), .ex (mOp oIx [.nm 5, .nm 7])])) (mRaise "InvalidPaper" ["word", "at"] [.ex (mC (.str "late")), .ex (mN 7)]) (mPass))
  (mSet 6 (mOp oIx [.nm 5, .nm 7]))
theorem p2_loop {zs : List Int} {sp : Sp} {tr : List Nat} {vs : List Int} (h : Tv zs sp tr vs) (o3 o4 o8 : Option O) {BB : List Nat} (hB : BB.length = tr.length) (hn : ∀ x ∈ BB, x < sp.length) : ∀ (j b : Nat) (w7 : Option O), j ≤ tr.length → b ≤ sp.length →
    (mis (gbk (rk sp tr vs j) b) (BB.take j).reverse = none → ∃ w6 w7', forL (gN 7) bP2 (I (jn (List.range j).reverse)) [some (lfO zs sp), some (T (jn tr)), some (T vs), o3, o4, some (T (jn BB)), some (N ((b : Int) - 1)), w7, o8] = .nx [some (lfO zs sp), some (T (jn tr)), some (T vs), o3, o4, some (T (jn BB)), w6, w7', o8]) ∧
    (∀ e, mis (gbk (rk sp tr vs j) b) (BB.take j).reverse = some e → ∃ w6 w7', forL (gN 7) bP2 (I (jn (List.range j).reverse)) [some (lfO zs sp), some (T (jn tr)), some (T vs), o3, o4, some (T (jn BB)), some (N ((b : Int) - 1)), w7, o8] = .exc (invX "late" ((j : Int) - 1 - e)) [some (lfO zs sp), some (T (jn tr)), some (T vs), o3, o4, some (T (jn BB)), w6, w7', o8])
  | 0, b, w7, _, _ => ⟨fun _ => ⟨some (N ((b : Int) - 1)), w7, by simp [jn]⟩, fun e z => by rw [List.take_zero, List.reverse_nil, mis_nil] at z; cases z⟩
  | j + 1, b, w7, hj, hb => by
    obtain ⟨d, v, h1, h2, h3, h4⟩ := rk_succ h (show j < tr.length by omega)
    have em := e_moment_back h.lf h3 hb v ((b : Int) - 1) rfl
    have t1 := jn_get h1
    obtain ⟨a, ha⟩ : ∃ a, BB[j]? = some a := ⟨_, List.getElem?_eq_getElem (by omega)⟩
    have a1 := jn_get ha
    have an := hn a (List.mem_of_getElem? ha)
    have eb : (BB.take (j + 1)).reverse = a :: (BB.take j).reverse := by
      rw [List.take_succ, ha, List.reverse_append]
      rfl
    have er : (List.range (j + 1)).reverse = j :: (List.range j).reverse := by
      rw [List.range_succ, List.reverse_append]
      rfl
    have jc : jn (j :: (List.range j).reverse) = (j : Int) :: jn (List.range j).reverse := rfl
    have oni := oEq_ni a
    rw [h4, er, jc, eb]
    simp only [gbk]
    obtain ⟨BJ, hBJ⟩ : ∃ BJ, BJ = jn BB := ⟨_, rfl⟩
    obtain ⟨TJ, hTJ⟩ : ∃ TJ, TJ = jn tr := ⟨_, rfl⟩
    obtain ⟨RJ, hRJ⟩ : ∃ RJ, RJ = jn (List.range j).reverse := ⟨_, rfl⟩
    rw [← hBJ] at a1 ⊢
    rw [← hTJ] at t1 ⊢
    rw [← hRJ]
    cases q : bk (pd sp d v) b with
    | none =>
      rw [q] at em
      simp only [oN] at em
      refine ⟨fun z => by simp [mis] at z, fun e z => ⟨some (N ((b : Int) - 1)), some (N j), ?_⟩⟩
      simp [mis] at z
      subst z
      simp [forL_cons, bP2, t1, h2, a1, em, oni, invX]
    | some k =>
      rw [q] at em
      simp only [oN] at em
      obtain ⟨k1, -, -⟩ := bk_some q
      by_cases ka : k = a
      · subst ka
        have e0 : (((k + 1 : Nat) : Int) - 1) = (k : Int) := by omega
        have i12 := p2_loop h o3 o4 o8 hB hn j (k + 1) (some (N j)) (by omega) (by omega)
        rw [← hBJ, ← hTJ, ← hRJ, e0] at i12
        obtain ⟨i1, i2⟩ := i12
        have step : ∀ r, forL (gN 7) bP2 (I RJ) [some (lfO zs sp), some (T TJ), some (T vs), o3, o4, some (T BJ), some (N k), some (N j), o8] = r → forL (gN 7) bP2 (I ((j : Int) :: RJ)) [some (lfO zs sp), some (T TJ), some (T vs), o3, o4, some (T BJ), some (N ((b : Int) - 1)), w7, o8] = r := by
          intro r hr
          rw [← hr]
          simp [forL_cons, bP2, t1, h2, a1, em]
        constructor
        · intro z
          simp [mis] at z
          obtain ⟨w6, w7', e⟩ := i1 (by simpa using z)
          exact ⟨w6, w7', step _ e⟩
        · intro e z
          simp [mis] at z
          obtain ⟨i, zi, rfl⟩ := z
          obtain ⟨w6, w7', e⟩ := i2 i (by simpa using zi)
          refine ⟨w6, w7', step _ ?_⟩
          rw [e]
          congr 2
          omega
      · refine ⟨fun z => by simp [mis, ka] at z, fun e z => ⟨some (N ((b : Int) - 1)), some (N j), ?_⟩⟩
        simp [mis, ka] at z
        subst z
        have ka2 : ¬ (k : Int) = a := by omega
        simp [forL_cons, bP2, t1, h2, a1, em, ka, ka2, invX]
/-! the checker -/
def isPair : D → Prop := fun t => ∃ a b, t = .tup [a, b]
section
variable {zs : List Int} {sp : Sp} {tr : List Nat} {vs : List Int}
theorem l_shape (h : Tv zs sp tr vs) {t : D} (ht : ¬ isPair t) : D_lets_answer [lfO zs sp, T (jn tr), T vs, .d t] = .exc (invX "shape" (-1)) [some (lfO zs sp), some (T (jn tr)), some (T vs), some (.d t)] := by
  have ea := e_asked h
  cases t with
  | tup ds =>
    have q : ¬ ds.length = 2 := fun z => ht (by
      match ds, z with
      | [a, b], _ => exact ⟨a, b, rfl⟩)
    have q2 : ¬ (ds.length : Int) = 2 := by omega
    simp [D_lets_answer, m_lets_answer, ea, q, q2, invX]
  | _ => simp [D_lets_answer, m_lets_answer, ea, invX, tyN]
theorem l_early (h : Tv zs sp tr vs) {a b : D} (ha : Few a) (hm : momB sp.length tr.length a = false) : D_lets_answer [lfO zs sp, T (jn tr), T vs, .d (.tup [a, b])] = .exc (invX "early" (-1)) [some (lfO zs sp), some (T (jn tr)), some (T vs), some (.d (.tup [a, b]))] := by
  have ea := e_asked h
  have e1 := e_are h.lf tr.length a ha
  rw [hm] at e1
  have jl := jn_len tr
  generalize jn tr = TJ at *
  simp [D_lets_answer, m_lets_answer, ea, jl, e1, invX]
theorem l_early_at (h : Tv zs sp tr vs) {A : List Nat} {b : D} (hA : A.length = tr.length) (hn : ∀ x ∈ A, x < sp.length) {i : Nat} (hm : mis (eg sp tr vs) A = some i) : D_lets_answer [lfO zs sp, T (jn tr), T vs, .d (.tup [.tup (I (jn A)), b])] = .exc (invX "early" i) [some (lfO zs sp), some (T (jn tr)), some (T vs), some (.d (.tup [.tup (I (jn A)), b]))] := by
  have ea := e_asked h
  have t8 := h.t8
  have mb : momB sp.length tr.length (.tup (I (jn A))) = true := by
    have := tourB_ok (n := sp.length) (tr := A) hn
    simp only [tourB] at this
    simp only [momB, this, Bool.and_true, decide_eq_true_eq, I_len, jn_len, hA]
  have e1 := e_are h.lf tr.length (.tup (I (jn A))) (fun ds z => by cases z; rw [I_len, jn_len]; omega)
  rw [mb] at e1
  obtain ⟨w6, w7, w8, e2⟩ := (p1_loop h.lf (some (T (jn tr))) (some (.d (.tup [.tup (I (jn A)), b]))) (some (.d b)) vs A tr vs A 0 0 none none h.t h.vl hA (fun j _ => by rw [Nat.zero_add]; exact ⟨rfl, rfl⟩) (Nat.zero_le _) hn).2 i hm
  rw [Nat.zero_add] at e2
  have jl := jn_len tr
  unfold bP1 at e2
  generalize jn A = AJ at *
  generalize jn tr = TJ at *
  simp at e2
  simp [D_lets_answer, m_lets_answer, ea, jl, e1, e2]
end
end K24
end
section
set_option Elab.async false
set_option linter.all false
set_option maxRecDepth 100000
set_option maxHeartbeats 4000000
namespace K24
open PySem PySem.Spec L2 L2H Dn K24M
open PyProof.Rows hiding St
theorem mis_same : ∀ E : List Nat, mis E E = none
  | [] => rfl
  | e :: E => by
    unfold mis
    rw [if_pos rfl, mis_same E]
    rfl
theorem momB_T {n k : Nat} {A : List Nat} (hA : A.length = k) (hn : ∀ x ∈ A, x < n) : momB n k (.tup (I (jn A))) = true := by
  have := tourB_ok (n := n) (tr := A) hn
  simp only [tourB] at this
  simp only [momB, this, Bool.and_true, decide_eq_true_eq, I_len, jn_len, hA]
section
variable {zs : List Int} {sp : Sp} {tr : List Nat} {vs : List Int}
theorem eg_lt : ∀ x ∈ eg sp tr vs, x < sp.length := fun x hx => (gon_mem hx).2
theorem lg_lt : ∀ x ∈ lg sp tr vs, x < sp.length := fun x hx => gbk_mem hx
theorem p1_good (h : Tv zs sp tr vs) (hc : (eg sp tr vs).length = tr.length) (o1 o3 o5 : Option O) : ∃ w6 w7 w8, forL (gT [gN 7, gN 8]) bP1 (numD 0 (I (jn tr))) [some (lfO zs sp), o1, some (T vs), o3, some (T (jn (eg sp tr vs))), o5, some (N 0), none, none] = .nx [some (lfO zs sp), o1, some (T vs), o3, some (T (jn (eg sp tr vs))), o5, w6, w7, w8] :=
  (p1_loop h.lf o1 o3 o5 vs (eg sp tr vs) tr vs (eg sp tr vs) 0 0 none none h.t h.vl hc (fun j _ => by rw [Nat.zero_add]; exact ⟨rfl, rfl⟩) (Nat.zero_le _) eg_lt).1 (mis_same _)
theorem l_late (h : Tv zs sp tr vs) (hc : (eg sp tr vs).length = tr.length) {b : D} (hb : Few b) (hm : momB sp.length tr.length b = false) : D_lets_answer [lfO zs sp, T (jn tr), T vs, .d (.tup [.tup (I (jn (eg sp tr vs))), b])] = .exc (invX "late" (-1)) [some (lfO zs sp), some (T (jn tr)), some (T vs), some (.d (.tup [.tup (I (jn (eg sp tr vs))), b]))] := by
  have ea := e_asked h
  have t8 := h.t8
  have e1 := e_are h.lf tr.length (.tup (I (jn (eg sp tr vs)))) (fun ds z => by cases z; rw [I_len, jn_len]; omega)
  rw [momB_T hc eg_lt] at e1
  have e3 := e_are h.lf tr.length b hb
  rw [hm] at e3
  obtain ⟨w6, w7, w8, e2⟩ := p1_good h hc (some (T (jn tr))) (some (.d (.tup [.tup (I (jn (eg sp tr vs))), b]))) (some (.d b))
  have jl := jn_len tr
  unfold bP1 at e2
  generalize jn (eg sp tr vs) = AJ at *
  generalize jn tr = TJ at *
  simp [D_lets_answer, m_lets_answer, ea, jl, e1, e2, e3, invX]
theorem l_late_at (h : Tv zs sp tr vs) (hc : (eg sp tr vs).length = tr.length) {B : List Nat} (hB : B.length = tr.length) (hn : ∀ x ∈ B, x < sp.length) {i : Nat} (hm : mis (lg sp tr vs) B.reverse = some i) : D_lets_answer [lfO zs sp, T (jn tr), T vs, .d (.tup [.tup (I (jn (eg sp tr vs))), .tup (I (jn B))])] = .exc (invX "late" ((tr.length : Int) - 1 - i)) [some (lfO zs sp), some (T (jn tr)), some (T vs), some (.d (.tup [.tup (I (jn (eg sp tr vs))), .tup (I (jn B))]))] := by
  have ea := e_asked h
  have t8 := h.t8
  have s61 := h.lf.s61
  have l1 := lf1 zs sp
  have sl := spD_len sp
  have e1 := e_are h.lf tr.length (.tup (I (jn (eg sp tr vs)))) (fun ds z => by cases z; rw [I_len, jn_len]; omega)
  rw [momB_T hc eg_lt] at e1
  have e3 := e_are h.lf tr.length (.tup (I (jn B))) (fun ds z => by cases z; rw [I_len, jn_len]; omega)
  rw [momB_T hB hn] at e3
  obtain ⟨w6, w7, w8, e2⟩ := p1_good h hc (some (T (jn tr))) (some (.d (.tup [.tup (I (jn (eg sp tr vs))), .tup (I (jn B))]))) (some (.d (.tup (I (jn B)))))
  have hBt : (B.take tr.length).reverse = B.reverse := by rw [List.take_of_length_le (by omega)]
  have p2 := (p2_loop h (some (.d (.tup [.tup (I (jn (eg sp tr vs))), .tup (I (jn B))]))) (some (T (jn (eg sp tr vs)))) w8 hB hn tr.length sp.length w7 (Nat.le_refl _) (Nat.le_refl _)).2 i
  rw [hBt, rk_all h] at p2
  obtain ⟨w6', w7', e4⟩ := p2 hm
  rw [← dn_range] at e4
  have tl : ((tr.length : Int) - 1 - -1).toNat = tr.length := by omega
  have c1 : (-4611686018427387904 : Int) ≤ (tr.length : Int) - 1 ∧ (tr.length : Int) - 1 < 4611686018427387904 := by omega
  have tl2 : ((tr.length : Int) - 1 + 1).toNat = tr.length := by omega
  have jl := jn_len tr
  unfold bP1 at e2
  unfold bP2 at e4
  generalize jn (eg sp tr vs) = AJ at *
  generalize jn B = BJ at *
  generalize jn tr = TJ at *
  simp [D_lets_answer, m_lets_answer, ea, l1, sl, jl, e1, e2, e3, c1, tl, tl2, e4]
theorem l_good (h : Tv zs sp tr vs) (hc : (eg sp tr vs).length = tr.length) {x y : Nat} (en : En sp tr vs x y) : D_lets_answer [lfO zs sp, T (jn tr), T vs, .d (.tup [.tup (I (jn (eg sp tr vs))), .tup (I (jn (lg sp tr vs).reverse))])] = .ok (.d (.tup [.int (stg sp y), .int (stg sp x)])) [some (lfO zs sp), some (T (jn tr)), some (T vs), some (.d (.tup [.tup (I (jn (eg sp tr vs))), .tup (I (jn (lg sp tr vs).reverse))]))] := by
  have ea := e_asked h
  have t8 := h.t8
  have s61 := h.lf.s61
  have l1 := lf1 zs sp
  have sl := spD_len sp
  have hl := (seen_iff h).mp hc
  have hB : (lg sp tr vs).reverse.length = tr.length := by rw [List.length_reverse]; exact hl
  have hn : ∀ x ∈ (lg sp tr vs).reverse, x < sp.length := fun x m => lg_lt x (List.mem_reverse.mp m)
  have e1 := e_are h.lf tr.length (.tup (I (jn (eg sp tr vs)))) (fun ds z => by cases z; rw [I_len, jn_len]; omega)
  rw [momB_T hc eg_lt] at e1
  have e3 := e_are h.lf tr.length (.tup (I (jn (lg sp tr vs).reverse))) (fun ds z => by cases z; rw [I_len, jn_len]; omega)
  rw [momB_T hB hn] at e3
  obtain ⟨w6, w7, w8, e2⟩ := p1_good h hc (some (T (jn tr))) (some (.d (.tup [.tup (I (jn (eg sp tr vs))), .tup (I (jn (lg sp tr vs).reverse))]))) (some (.d (.tup (I (jn (lg sp tr vs).reverse)))))
  have hBt : ((lg sp tr vs).reverse.take tr.length).reverse = lg sp tr vs := by rw [List.take_of_length_le (by omega), List.reverse_reverse]
  have p2 := (p2_loop h (some (.d (.tup [.tup (I (jn (eg sp tr vs))), .tup (I (jn (lg sp tr vs).reverse))]))) (some (T (jn (eg sp tr vs)))) w8 hB hn tr.length sp.length w7 (Nat.le_refl _) (Nat.le_refl _)).1
  rw [hBt, rk_all h] at p2
  obtain ⟨w6', w7', e4⟩ := p2 (mis_same _)
  rw [← dn_range] at e4
  have tl : ((tr.length : Int) - 1 - -1).toNat = tr.length := by omega
  have c1 : (-4611686018427387904 : Int) ≤ (tr.length : Int) - 1 ∧ (tr.length : Int) - 1 < 4611686018427387904 := by omega
  have tl2 : ((tr.length : Int) - 1 + 1).toNat = tr.length := by omega
  have jl := jn_len tr
  have a1 := at_last (jn_last en.ex)
  have a0 := rev_first en.ly
  have gx := spD_get en.xl
  have gy := spD_get en.yl
  unfold bP1 at e2
  unfold bP2 at e4
  generalize jn (eg sp tr vs) = AJ at *
  generalize jn (lg sp tr vs).reverse = BJ at *
  generalize jn tr = TJ at *
  simp [D_lets_answer, m_lets_answer, ea, l1, sl, jl, e1, e2, e3, c1, tl, tl2, e4, a1, a0, ↓gx, ↓gy, p2_1]
end
end K24
end
section
set_option Elab.async false
set_option linter.all false
set_option maxRecDepth 100000
set_option maxHeartbeats 4000000
namespace K24
open PySem PySem.Spec L2 L2H Dn K24M
open PyProof.Rows hiding St
theorem rg62 {r : Int} (h0 : 0 ≤ r) (h1 : r ≤ 1000000) : (-4611686018427387904 : Int) ≤ r ∧ r < 4611686018427387904 := by omega
/-! draws -/
abbrev Po (ns : List Int) : O := Dn.L ns
theorem pop_L {ns : List Int} {x : Int} (h : ns.getLast? = some x) : fPop ((I ns).map O.d) [] = some (N x, (I ns.dropLast).map O.d) := by
  have e : ((I ns).map O.d).getLast? = some (N x) := by
    unfold I
    rw [List.getLast?_map, List.getLast?_map, h]
    rfl
  unfold fPop
  simp only [e]
  rw [← I_dropLast, List.map_dropLast]
theorem e_take {ns : List Int} (hne : ns ≠ []) {many : Int} (h0 : 0 < many) : ∃ r ns', ns' ≠ [] ∧ 0 ≤ r ∧ r < many ∧ D__law_take [Po ns, N many] = .ok (N r) [some (Po ns'), some (N many)] := by
  by_cases q : 1 < ns.length
  · obtain ⟨x, hx⟩ : ∃ x, ns.getLast? = some x := ⟨_, List.getLast?_eq_some_getLast hne⟩
    have q2 : (1 : Int) < ns.length := by omega
    have pl := pop_L hx
    refine ⟨x % many, ns.dropLast, fun z => ?_, Int.emod_nonneg _ (by omega), Int.emod_lt_of_pos _ h0, ?_⟩
    · have := congrArg List.length z
      rw [List.length_dropLast] at this
      simp at this
      omega
    · simp [D__law_take, m__law_take, q, q2, pl, h0]
  · obtain ⟨a, rfl⟩ : ∃ a, ns = [a] := by
      match ns, hne, q with
      | [a], _, _ => exact ⟨a, rfl⟩
      | a :: b :: r, _, q => exact absurd (by simp) q
    obtain ⟨a', ha⟩ : ∃ a', a' = (a * 40692 + 21001) % 2147483399 := ⟨_, rfl⟩
    have m1 : ∀ i, cMul i 40692 = true := fun i => cMul_right (by decide)
    have m2 : ∀ i, cMul i 11 = true := fun i => cMul_right (by decide)
    have d1 : ∀ i, cDiv i 1039 = true := fun i => by unfold cDiv; decide +kernel
    have i0 : ixN 1 (0 : Int) = some 0 := rfl
    have at1 : ∀ a : Int, atO (.l [N a]) 0 = some (.int a) := fun a => rfl
    refine ⟨(a' * 11 / 1039) % many, [a'], by simp, Int.emod_nonneg _ (by omega), Int.emod_lt_of_pos _ h0, ?_⟩
    simp [D__law_take, m__law_take, at1, m1, m2, d1, i0, ← ha, h0]
def bDi : MS := mIf (mB (mOp oGt [.nm 4, .ex (mC (.int 0))])) (mSeq (mExpr (mMut 1 fApp [.ex (mOp oMod [.ex (mOp oInt [.nm 4]), .ex (mC (.int 1033))])]))
  (mSet 4 (mOp oDiv [.nm 4, .ex (mC (.int 1033))]))) (mPass)
theorem di_loop (o0 o2 o3 : Option O) : ∀ (its : List D) (acc : List Int) (rest : Int) (w5 : Option O), acc.length + its.length ≤ 100000 →
    ∃ acc' rest' w5', acc'.length ≤ acc.length + its.length ∧ forL (gN 5) bDi its [o0, some (Dn.L acc), o2, o3, some (N rest), w5] = .nx [o0, some (Dn.L acc'), o2, o3, some (N rest'), w5']
  | [], acc, rest, w5, _ => ⟨acc, rest, w5, Nat.le_refl _, rfl⟩
  | d :: its, acc, rest, w5, h => by
    rw [List.length_cons] at h
    have d1 : cDiv rest 1033 = true := by unfold cDiv; decide +kernel
    have hg : acc.length < 16000000 := by omega
    by_cases q : 0 < rest
    · obtain ⟨acc', rest', w5', l, e⟩ := di_loop o0 o2 o3 its (acc ++ [rest % 1033]) (rest / 1033) (some (.d d)) (by rw [List.length_append, List.length_singleton]; omega)
      refine ⟨acc', rest', w5', by rw [List.length_append, List.length_singleton] at l; rw [List.length_cons]; omega, ?_⟩
      rw [← e]
      simp [forL_cons, bDi, q, hg, d1]
    · obtain ⟨acc', rest', w5', l, e⟩ := di_loop o0 o2 o3 its acc rest (some (.d d)) (by omega)
      refine ⟨acc', rest', w5', by rw [List.length_cons]; omega, ?_⟩
      rw [← e]
      simp [forL_cons, bDi, q]
def bDr : MS := mIf (mB (mOp oGe [.nm 3, .ex (mOp oPow [.ex (mC (.int 10)), .ex (mC (.int 18))])])) (mSeq (mSet 4 (mN 3))
  (mFor (mRg [.ex (mC (.int 52))]) (gN 5) bDi)) (mSeq (mSet 2 (mOp oMod [.ex (mOp oInt [.ex (mOp oPlus [.ex (mOp oPlus [.ex (mOp oMul [.nm 2, .ex (mC (.int 40692))]), .ex (mOp oMul [.nm 3, .ex (mC (.int 3797))])]), .ex (mC (.int 23))])]), .ex (mC (.int 2147483399))]))
  (mExpr (mMut 1 fApp [.ex (mOp oMod [.ex (mOp oInt [.ex (mOp oPlus [.ex (mOp oMul [.nm 2, .ex (mC (.int 31013))]), .ex (mC (.int 17))])]), .ex (mC (.int 1999853))])])))
theorem dr_loop (o0 : Option O) : ∀ (cells acc : List Int) (st : Int) (w3 w4 w5 : Option O), acc.length + 60 * cells.length ≤ 90000 →
    ∃ acc' st' w3' w4' w5', acc'.length ≤ acc.length + 60 * cells.length ∧ forL (gN 3) bDr (I cells) [o0, some (Dn.L acc), some (N st), w3, w4, w5] = .nx [o0, some (Dn.L acc'), some (N st'), w3', w4', w5']
  | [], acc, st, w3, w4, w5, _ => ⟨acc, st, w3, w4, w5, by simp, rfl⟩
  | c :: cells, acc, st, w3, w4, w5, h => by
    rw [List.length_cons] at h
    have c3 : cShl 10 18 = true := by decide +kernel
    have m1 : ∀ i, cMul i 40692 = true := fun i => cMul_right (by decide)
    have m2 : ∀ i, cMul i 3797 = true := fun i => cMul_right (by decide)
    have m3 : ∀ i, cMul i 31013 = true := fun i => cMul_right (by decide)
    have hg : acc.length < 16000000 := by omega
    by_cases q : (1000000000000000000 : Int) ≤ c
    · have r52 : (rgD 0 52).length = 52 := by decide
      obtain ⟨acc1, rest1, w51, l1, e1⟩ := di_loop o0 (some (N st)) (some (N c)) (rgD 0 52) acc c w5 (by omega)
      obtain ⟨acc', st', w3', w4', w5', l, e⟩ := dr_loop o0 cells acc1 st (some (N c)) (some (N rest1)) w51 (by omega)
      refine ⟨acc', st', w3', w4', w5', by rw [List.length_cons]; omega, ?_⟩
      rw [← e]
      simp [forL_cons, bDr, c3, q, e1]
    · obtain ⟨st1, hs⟩ : ∃ st1, st1 = (st * 40692 + c * 3797 + 23) % 2147483399 := ⟨_, rfl⟩
      obtain ⟨acc', st', w3', w4', w5', l, e⟩ := dr_loop o0 cells (acc ++ [(st1 * 31013 + 17) % 1999853]) st1 (some (N c)) w4 w5 (by rw [List.length_append, List.length_singleton]; omega)
      refine ⟨acc', st', w3', w4', w5', by rw [List.length_append, List.length_singleton] at l; rw [List.length_cons]; omega, ?_⟩
      rw [← e]
      simp [forL_cons, bDr, c3, q, m1, m2, m3, ← hs, hg]
theorem e_draws {ns : List Int} (hn : ns.length ≤ 63) : ∃ pool, pool ≠ [] ∧ D__law_draws [.d (.scr (I ns))] = .ok (Po pool) [some (.d (.scr (I ns)))] := by
  have m1 : ∀ i, cMul 1229 i = true := fun i => by
    first
      | exact cMul_left (by decide)
      | (unfold cMul; simp)
  obtain ⟨acc, st, w3, w4, w5, l, e⟩ := dr_loop (some (.d (.scr (I ns)))) ns [] (30871 + 1229 * (ns.length : Int)) none none none (by simp; omega)
  have L0 : Dn.L [] = .l [] := rfl
  rw [L0] at e
  unfold bDr bDi at e
  refine ⟨st :: acc.reverse, by simp, ?_⟩
  have g : 1 + acc.length ≤ 16777216 := by simp at l; omega
  have lr : allD ((I acc).map O.d).reverse = some (I acc.reverse) := by
    rw [← List.map_reverse, I_reverse]
    exact allD_map _
  simp [D__law_draws, m__law_draws, m1, e, lr, g]
end K24
end
section
set_option Elab.async false
set_option linter.all false
set_option maxRecDepth 100000
set_option maxHeartbeats 4000000
namespace K24
open PySem PySem.Spec L2 L2H Dn K24M
open PyProof.Rows hiding St
/-! True in a list of flags -/
theorem Bs_lay : ∀ bs : List Bool, PyData.canLayAll0 (pds (Bs bs)) = true ∧ PyData.depthAll (pds (Bs bs)) = 0
  | [] => by simp [Bs, pds, PyData.canLayAll0, PyData.depthAll]
  | b :: r => by
    have h := Bs_lay r
    have e : Bs (b :: r) = .bl b :: Bs r := rfl
    rw [e]
    simp [pds, Dn.pd, PyData.canLayAll0, PyData.depthAll, PyData.canLay0, PyData.depth, h]
theorem shaped_Bs (bs : List Bool) : SeqAt.shaped (Dn.pd (.lst (Bs bs))) = true := by
  have h := Bs_lay bs
  simp [SeqAt.shaped, Dn.pd, PyData.canLay0, PyData.depth, h]
theorem shaped_b (b : Bool) : SeqAt.shaped (Dn.pd (.bl b)) = true := by
  simp [SeqAt.shaped, Dn.pd, PyData.canLay0, PyData.depth]
theorem deq_b (b : Bool) : deq (.bl b) (.bl true) = b := by
  simp only [deq, Dn.pd, PyData.eqv]
  cases b <;> rfl
theorem any_Bs (bs : List Bool) : ((Bs bs).any fun z => deq z (.bl true)) = bs.any id := by
  unfold Bs
  rw [List.any_map]
  congr 1
  funext b
  exact deq_b b
theorem oIn_Bs (bs : List Bool) : oIn true [tt, .d (.lst (Bs bs))] = some (.d (.bl (!bs.any id))) := by
  have h1 := shaped_Bs bs
  have h2 := shaped_b true
  simp only [oIn, inX, frz_d, h1, h2, Bool.and_self, if_true, any_Bs]
theorem oIndex_b (a : O) : oIndex [a, tt] = none := by
  simp only [oIndex]
  cases (lstF a).bind dInts <;> rfl
theorem findP_Bs : ∀ (bs : List Bool) (n k : Nat), bs[k]? = some true → (∀ j, j < k → bs[j]? = some false) → findP (fun z => deq z (.bl true)) (Bs bs) n = some (n + k)
  | [], _, _, h, _ => by cases h
  | b :: r, n, 0, h, _ => by
    injection h with h
    subst h
    have e : Bs (true :: r) = .bl true :: Bs r := rfl
    rw [e]
    unfold findP
    rw [if_pos (deq_b true)]
    rfl
  | b :: r, n, k + 1, h, g => by
    have b0 := g 0 (by omega)
    injection b0 with b0
    subst b0
    have e : Bs (false :: r) = .bl false :: Bs r := rfl
    rw [e]
    unfold findP
    rw [if_neg (by rw [deq_b]; simp), findP_Bs r (n + 1) k h fun j hj => by
      have := g (j + 1) (by omega)
      exact this]
    congr 1
    omega
theorem oIndexD_Bs {bs : List Bool} {k : Nat} (h : bs[k]? = some true) (g : ∀ j, j < k → bs[j]? = some false) : oIndexD [.d (.lst (Bs bs)), tt] = some (N k) := by
  have h1 := shaped_Bs bs
  have h2 := shaped_b true
  have f := findP_Bs bs 0 k h g
  rw [Nat.zero_add] at f
  have lf : lstF (.d (.lst (Bs bs))) = some (Bs bs) := rfl
  simp only [oIndexD, lstX, lf, frz_d, h1, h2, Bool.and_self, if_true, f]
  rfl
theorem opO_n (e : Dn.Env) : opO e none = .fail := rfl
/-! fronts -/
abbrev bO (bs : List Bool) : O := .l ((Bs bs).map O.d)
abbrev bF (bs : List Bool) : O := .d (.lst (Bs bs))
theorem Bs_get {f : Nat → Bool} {n p : Nat} (h : p < n) : (Bs ((List.range n).map f))[p]? = some (.bl (f p)) := by
  unfold Bs
  rw [List.getElem?_map, List.getElem?_map, List.getElem?_range h]
  rfl
theorem Bs_snoc (f : Nat → Bool) (p : Nat) : bO ((List.range (p + 1)).map f) = .l ((Bs ((List.range p).map f)).map O.d ++ [.d (.bl (f p))]) := by
  show O.l _ = _
  rw [List.range_succ, List.map_append]
  unfold Bs
  rw [List.map_append, List.map_append]
  rfl
/-- the flags say that what comes from m on is reached -/
def Rch (lo len m : Nat) (f : Nat → Bool) : Prop := ∀ p, p < len → ((∃ q, q ≤ p ∧ f q = true) ↔ m ≤ lo + p)
def bFi : MS := mSeq (mSet 8 (mOr (mN 8) (mOp oIx [.nm 5, .nm 10])))
  (mExpr (mMut 9 fApp [.ex (mAnd (mN 8) (mOp (oEq false) [.ex (mOp oIx [.ex (mOp oIx [.ex (mOp oIx [.ex (mOp oIx [.nm 0, .ex (mC (.int 1))]), .ex (mOp oPlus [.nm 3, .nm 10])]), .ex (mC (.int 0))]), .ex (mOp oIx [.nm 1, .nm 7])]), .ex (mOp oIx [.nm 2, .nm 7])]))]))
theorem fi_loop {zs : List Int} {sp : Sp} (h : Lf zs sp) {tr : List Nat} {vs : List Int} {i d : Nat} {v : Int} (hd : d < zs.length) (ht : tr[i]? = some d) (hv : vs[i]? = some v) {lo len m : Nat} (hl : lo + len ≤ sp.length) (hm : lo ≤ m) {f : Nat → Bool} (hf : Rch lo len m f) {o5 : O} (ho : o5 = bO ((List.range len).map f) ∨ o5 = bF ((List.range len).map f)) (o4 o6 o11 : Option O) :
    ∀ (cnt p : Nat) (w10 : Option O), p + cnt = len → ∃ w10', forL (gN 10) bFi ((List.range' p cnt).map fun (i : Nat) => D.int i) [some (lfO zs sp), some (T (jn tr)), some (T vs), some (N lo), o4, some o5, o6, some (N i), some (.d (.bl (decide (m < lo + p)))), some (bO ((List.range p).map fun q => decide (m ≤ lo + q) && pd sp d v (lo + q))), w10, o11] =
      .nx [some (lfO zs sp), some (T (jn tr)), some (T vs), some (N lo), o4, some o5, o6, some (N i), some (.d (.bl (decide (m < lo + len)))), some (bO ((List.range len).map fun q => decide (m ≤ lo + q) && pd sp d v (lo + q))), w10', o11]
  | 0, p, w10, hp => ⟨w10, by rw [show p = len by omega]; rfl⟩
  | cnt + 1, p, w10, hp => by
    obtain ⟨w10', ih⟩ := fi_loop h hd ht hv hl hm hf ho o4 o6 o11 cnt (p + 1) (some (N p)) (by omega)
    refine ⟨w10', ?_⟩
    have hpl : p < len := by omega
    have q := hf p hpl
    have gb : (Bs ((List.range len).map f))[p]? = some (.bl (f p)) := Bs_get hpl
    have l1 := lf1 zs sp
    have t1 := jn_get ht
    have gs := spD_get (sp := sp) (m := lo + p) (by omega)
    have gr := row_get h (m := lo + p) (by omega) hd
    have hg : (Bs ((List.range p).map fun q => decide (m ≤ lo + q) && pd sp d v (lo + q))).length < 16000000 := by
      have := h.s61
      unfold Bs
      simp
      omega
    have atp : atI (spD sp) ((lo : Int) + (p : Int)) = some (.tup [.tup (I (row sp (lo + p))), .int (stg sp (lo + p))]) := by
      rw [show (lo : Int) + (p : Int) = ((lo + p : Nat) : Int) by omega, Dn.atI_nat]
      exact gs
    have e8 : (decide (m < lo + p) || f p) = decide (m < lo + (p + 1)) := by
      by_cases z : m < lo + p
      · have : m < lo + (p + 1) := by omega
        simp [z, this]
      · have z2 : (m < lo + (p + 1)) ↔ f p = true := by
          constructor
          · intro y
            obtain ⟨r, r1, r2⟩ := q.mpr (by omega)
            by_cases rp : r = p
            · rw [← rp]; exact r2
            · have := (hf (p - 1) (by omega)).mp ⟨r, by omega, r2⟩
              omega
          · intro y
            have := q.mp ⟨p, Nat.le_refl _, y⟩
            omega
        cases fp : f p with
        | true => simp [z, z2.mpr fp]
        | false =>
          have nz : ¬ m < lo + (p + 1) := fun y => by
            rw [z2.mp y] at fp
            cases fp
          rw [decide_eq_false z, decide_eq_false nz]
          rfl
    have e9 : decide (m < lo + (p + 1)) = decide (m ≤ lo + p) := by
      congr 1
      apply propext
      omega
    rw [List.range'_succ, List.map_cons, forL_cons, ← ih, Bs_snoc]
    rw [← e9, ← e8]
    generalize hM : (List.range p).map (fun q => decide (m ≤ lo + q) && pd sp d v (lo + q)) = MM at *
    generalize spD sp = SD at *
    generalize jn tr = TJ at *
    have pdv : pd sp d v (lo + p) = decide (sh sp (lo + p) d = v) := rfl
    rw [pdv]
    generalize hFF : (List.range len).map f = FF at *
    generalize f p = fp at *
    generalize decide (m < lo + p) = b8 at *
    rcases ho with rfl | rfl
    · cases b8 <;> cases fp <;> simp [bFi, gb, l1, t1, hv, atp, p2_0, gr, hg]
    · cases b8 <;> cases fp <;> simp [bFi, gb, l1, t1, hv, atp, p2_0, gr, hg]
end K24
end
section
set_option Elab.async false
set_option linter.all false
set_option maxRecDepth 100000
set_option maxHeartbeats 4000000
namespace K24
open PySem PySem.Spec L2 L2H Dn K24M
open PyProof.Rows hiding St
def bFo : MS := mSeq (mSet 8 (mC (.bl false)))
  (mSeq (mSet 9 (mAll oLst []))
  (mSeq (mFor (mRg [.ex (mOp oSub [.nm 4, .nm 3])]) (gN 10) bFi)
  (mSeq (mSet 5 (mN 9))
  (mSeq (mIf (mB (mOp (oIn true) [.ex (mC (.bl true)), .nm 5])) (mRet (mMv 6)) (mPass))
  (mExpr (mMut 6 fApp [.ex (mOp oPlus [.nm 3, .ex (mAlt (mLook oIndex (.nm 5) [.ex (mC (.bl true))]) (mAlt (mLookT oTIdx (.nm 5) [.ex (mC (.bl true))]) (mLook oIndexD (.nm 5) [.ex (mC (.bl true))])))])]))))))
theorem lk_drop {sp : Sp} {tr : List Nat} {vs : List Int} {i d : Nat} {v : Int} (ht : tr[i]? = some d) (hv : vs[i]? = some v) : (lk sp tr vs).drop i = pd sp d v :: (lk sp tr vs).drop (i + 1) := by
  obtain ⟨h1, e1⟩ := List.getElem?_eq_some_iff.mp ht
  obtain ⟨h2, e2⟩ := List.getElem?_eq_some_iff.mp hv
  unfold lk
  have hl : i < (List.zipWith (pd sp) tr vs).length := by rw [List.length_zipWith]; omega
  rw [List.drop_eq_getElem_cons hl, List.getElem_zipWith, e1, e2]
theorem fo_loop {zs : List Int} {sp : Sp} (h : Lf zs sp) {tr : List Nat} {vs : List Int} (ht : ∀ k ∈ tr, k < zs.length) (hvl : vs.length = tr.length) {lo len hi : Nat} (hh : hi = lo + len) (hl : hi ≤ sp.length) :
    ∀ (cnt i m : Nat) (acc : List Nat) (o5 : O) (f : Nat → Bool) (w7 w8 w9 w10 : Option O), i + cnt = tr.length → lo ≤ m → Rch lo len m f → (o5 = bO ((List.range len).map f) ∨ o5 = bF ((List.range len).map f)) → acc.length + cnt ≤ 1000 →
    ∃ w5' w7' w8' w9' w10', seqE (mRet (mMv 6)) (forL (gN 7) bFo ((List.range' i cnt).map fun (i : Nat) => D.int i) [some (lfO zs sp), some (T (jn tr)), some (T vs), some (N lo), some (N hi), some o5, some (Dn.L (jn acc)), w7, w8, w9, w10, none]) =
      .rt (Dn.L (jn (acc ++ gon hi ((lk sp tr vs).drop i) m))) [some (lfO zs sp), some (T (jn tr)), some (T vs), some (N lo), some (N hi), w5', none, w7', w8', w9', w10', none]
  | 0, i, m, acc, o5, f, w7, w8, w9, w10, hi', _, _, _, _ => by
    have e : (lk sp tr vs).drop i = [] := List.drop_eq_nil_of_le (by unfold lk; rw [List.length_zipWith]; omega)
    rw [e]
    exact ⟨some o5, w7, w8, w9, w10, by simp [gon]⟩
  | cnt + 1, i, m, acc, o5, f, w7, w8, w9, w10, hi', hm, hf, ho, ha => by
    obtain ⟨d, hd⟩ : ∃ d, tr[i]? = some d := ⟨_, List.getElem?_eq_getElem (by omega)⟩
    obtain ⟨v, hv⟩ : ∃ v, vs[i]? = some v := ⟨_, List.getElem?_eq_getElem (by omega)⟩
    have dz := ht d (List.mem_of_getElem? hd)
    have s61 := h.s61
    obtain ⟨w10', e1⟩ := fi_loop h dz hd hv (lo := lo) (len := len) (by omega) hm hf ho (some (N hi)) (some (Dn.L (jn acc))) none len 0 w10 (by omega)
    have dm : decide (m < lo + 0) = false := decide_eq_false (by omega)
    have b0 : bO ((List.range 0).map fun q => decide (m ≤ lo + q) && pd sp d v (lo + q)) = .l [] := rfl
    rw [dm, b0, ← List.range_eq_range', ← rgD_zero] at e1
    obtain ⟨g, hg⟩ : ∃ g : Nat → Bool, g = fun q => decide (m ≤ lo + q) && pd sp d v (lo + q) := ⟨_, rfl⟩
    rw [← hg] at e1
    have c3 : (-4611686018427387904 : Int) ≤ (hi : Int) - lo ∧ (hi : Int) - lo < 4611686018427387904 := by omega
    have ln : ((hi : Int) - lo).toNat = len := by omega
    have gi : ∀ q, g q = true ↔ (m ≤ lo + q ∧ pd sp d v (lo + q) = true) := fun q => by rw [hg]; simp
    have ib := oIn_Bs ((List.range len).map g)
    have oi := oIndex_b (bF ((List.range len).map g))
    rw [lk_drop hd hv, List.range'_succ, List.map_cons, forL_cons]
    simp only [gon]
    unfold bFi at e1
    cases q : on hi (pd sp d v) m with
    | none =>
      have all0 : ((List.range len).map g).any id = false := by
        refine Bool.eq_false_iff.mpr fun z => ?_
        obtain ⟨b, hb, hb2⟩ := List.any_eq_true.mp z
        obtain ⟨p, hp, rfl⟩ := List.mem_map.mp hb
        have hp := List.mem_range.mp hp
        have gp := (gi p).mp hb2
        rw [on_none q (lo + p) gp.1 (by omega)] at gp
        cases gp.2
      rw [all0] at ib
      refine ⟨some (bF ((List.range len).map g)), some (N i), some (.d (.bl (decide (m < lo + len)))), some (bF ((List.range len).map g)), w10', ?_⟩
      simp only [List.append_nil]
      generalize (List.range len).map g = GG at *
      generalize jn acc = AJ at *
      generalize jn tr = TJ at *
      simp [bFo, bFi, c3, ln, e1, ib]
    | some k =>
      obtain ⟨k1, k2, k3, k4⟩ := on_some q
      have kt : ((List.range len).map g)[k - lo]? = some true := by
        rw [List.getElem?_map, List.getElem?_range (by omega)]
        show some (g (k - lo)) = _
        rw [(gi (k - lo)).mpr ⟨by omega, by rw [show lo + (k - lo) = k by omega]; exact k3⟩]
      have kf : ∀ j, j < k - lo → ((List.range len).map g)[j]? = some false := fun j hj => by
        rw [List.getElem?_map, List.getElem?_range (by omega)]
        show some (g j) = _
        congr 1
        refine Bool.eq_false_iff.mpr fun z => ?_
        have gj := (gi j).mp z
        rw [k4 (lo + j) gj.1 (by omega)] at gj
        cases gj.2
      have id := oIndexD_Bs kt kf
      have all1 : ((List.range len).map g).any _root_.id = true := List.any_eq_true.mpr ⟨true, List.mem_of_getElem? kt, rfl⟩
      rw [all1] at ib
      have rc : Rch lo len k g := fun p hp => by
        constructor
        · rintro ⟨r, r1, r2⟩
          have gr := (gi r).mp r2
          by_cases z : lo + r < k
          · rw [k4 (lo + r) gr.1 z] at gr
            cases gr.2
          · omega
        · intro y
          exact ⟨k - lo, by omega, (gi _).mpr ⟨by omega, by rw [show lo + (k - lo) = k by omega]; exact k3⟩⟩
      obtain ⟨w5', w7', w8', w9', w10'', ih⟩ := fo_loop h ht hvl hh hl cnt (i + 1) k (acc ++ [k]) (bF ((List.range len).map g)) g (some (N i)) (some (.d (.bl (decide (m < lo + len))))) (some (bF ((List.range len).map g))) w10' (by omega) (by omega) rc (.inr rfl) (by rw [List.length_append, List.length_singleton]; omega)
      refine ⟨w5', w7', w8', w9', w10'', ?_⟩
      have ap : acc ++ k :: gon hi ((lk sp tr vs).drop (i + 1)) k = acc ++ [k] ++ gon hi ((lk sp tr vs).drop (i + 1)) k := by simp
      rw [ap, ← ih, jn_snoc]
      have jl : (jn acc).length < 16000000 := by rw [jn_len]; omega
      have kk : (lo : Int) + ((k - lo : Nat) : Int) = (k : Int) := by omega
      have lf : lstF (bF ((List.range len).map g)) = some (Bs ((List.range len).map g)) := rfl
      have tf : tupN (bF ((List.range len).map g)) = none := rfl
      generalize (List.range len).map g = GG at *
      generalize jn acc = AJ at *
      generalize jn tr = TJ at *
      generalize ((k - lo : Nat) : Int) = kl at *
      simp [bFo, bFi, c3, ln, e1, ib, oi, opO_n, id, kk, jl]
end K24
end
section
set_option Elab.async false
set_option linter.all false
set_option maxRecDepth 100000
set_option maxHeartbeats 4000000
namespace K24
open PySem PySem.Spec L2 L2H Dn K24M
open PyProof.Rows hiding St
theorem rgD_nat (lo len : Nat) : rgD (lo : Int) len = (List.range' lo len).map fun (i : Nat) => D.int i := by
  unfold rgD
  rw [List.range'_eq_map_range, List.map_map]
  refine List.map_congr_left fun i _ => ?_
  show D.int ((lo : Int) + (i : Int)) = D.int ((lo + i : Nat) : Int)
  rw [Int.natCast_add]
theorem e_fronts {zs : List Int} {sp : Sp} (h : Lf zs sp) {tr : List Nat} {vs : List Int} (ht : ∀ k ∈ tr, k < zs.length) (hvl : vs.length = tr.length) (h8 : tr.length ≤ 8) {lo hi : Nat} (hh : lo ≤ hi) (hl : hi ≤ sp.length) :
    D__law_fronts [lfO zs sp, T (jn tr), T vs, N lo, N hi] = .ok (Dn.L (jn (gon hi (lk sp tr vs) lo))) [some (lfO zs sp), some (T (jn tr)), some (T vs), some (N lo), some (N hi)] := by
  have s61 := h.s61
  obtain ⟨len, rfl⟩ : ∃ len, hi = lo + len := ⟨hi - lo, by omega⟩
  have e0 := compL_map (vs := [11]) (g := gN 11) (c := mYes) (m := mC (.bl true)) (e := [some (lfO zs sp), some (T (jn tr)), some (T vs), some (N lo), some (N ((lo + len : Nat) : Int)), none, none, none, none, none, none, none]) (fun _ => .bl true) (rgD lo len) (fun d hd => ⟨_, _, [some (lfO zs sp), some (T (jn tr)), some (T vs), some (N lo), some (N ((lo + len : Nat) : Int)), none, none, none, none, none, none, some (.d d)], rfl, rfl, rfl, rfl⟩) (by rw [rgD_nat]; simp; omega)
  have em : (rgD (lo : Int) len).map (fun _ => D.bl true) = Bs ((List.range len).map fun _ => true) := by
    unfold rgD Bs
    rw [List.map_map, List.map_map]
    rfl
  rw [em] at e0
  have rc : Rch lo len lo (fun _ => true) := fun p hp => ⟨fun _ => by omega, fun _ => ⟨0, by omega, rfl⟩⟩
  obtain ⟨w5, w7, w8, w9, w10, e1⟩ := fo_loop h ht hvl (lo := lo) (len := len) rfl hl tr.length 0 lo [] (bO ((List.range len).map fun _ => true)) (fun _ => true) none none none none (by omega) (Nat.le_refl _) rc (.inl rfl) (by simp; omega)
  rw [List.drop_zero, List.nil_append, ← List.range_eq_range', ← rgD_zero] at e1
  have L0 : Dn.L (jn []) = .l [] := rfl
  rw [L0] at e1
  have c1 := rg62 (r := (lo : Int)) (by omega) (by omega)
  have c2 := rg62 (r := ((lo + len : Nat) : Int)) (by omega) (by omega)
  have c3 := rg62 (r := (tr.length : Int)) (by omega) (by omega)
  have ln : (((lo + len : Nat) : Int) - lo).toNat = len := by omega
  have jl := jn_len tr
  unfold bFo bFi at e1
  generalize hi : ((lo + len : Nat) : Int) = HI at *
  generalize (List.range len).map (fun _ => true) = GG at *
  generalize jn tr = TJ at *
  generalize jn (gon (lo + len) (lk sp tr vs) lo) = RJ at *
  simp [D__law_fronts, m__law_fronts, c1, c2, ln, e0, jl, c3, e1]
theorem spD_rev (sp : Sp) : spD sp.reverse = (spD sp).reverse := List.map_reverse
theorem Lf.rev {zs : List Int} {sp : Sp} (h : Lf zs sp) : Lf zs sp.reverse :=
  ⟨h.z1, h.z3, h.zb, by rw [List.length_reverse]; exact h.s1, by rw [List.length_reverse]; exact h.s61, fun s m => h.rows s (List.mem_reverse.mp m)⟩
theorem on_congr {n m : Nat} {p p' : Pd} (h : ∀ j, j < n → p j = p' j) : on n p m = on n p' m := by
  cases e : on n p m with
  | none => exact (on_no fun j a b => by rw [← h j b]; exact on_none e j a b).symm
  | some k =>
    obtain ⟨a, b, c, d⟩ := on_some e
    exact (on_of a b (by rw [← h k b]; exact c) fun j j1 j2 => by rw [← h j (by omega)]; exact d j j1 j2).symm
theorem sh_rev {sp : Sp} {j d : Nat} (hj : j < sp.length) : sh sp.reverse j d = sh sp (sp.length - 1 - j) d := by
  have e : sp.reverse.getD j ([], 0) = sp.getD (sp.length - 1 - j) ([], 0) := by
    rw [List.getD_eq_getElem?_getD, List.getD_eq_getElem?_getD, List.getElem?_reverse hj]
  unfold sh row
  rw [e]
theorem gon_rev {sp : Sp} : ∀ (a : List Nat) (b : List Int) (m : Nat), gon sp.length (lk sp.reverse a b) m = gon sp.length ((lk sp a b).map (tn sp.length)) m
  | [], _, _ => by simp [lk]
  | _ :: _, [], _ => by simp [lk]
  | d :: a, v :: b, m => by
    have e1 : lk sp.reverse (d :: a) (v :: b) = pd sp.reverse d v :: lk sp.reverse a b := rfl
    have e2 : (lk sp (d :: a) (v :: b)).map (tn sp.length) = tn sp.length (pd sp d v) :: (lk sp a b).map (tn sp.length) := rfl
    rw [e1, e2]
    simp only [gon]
    rw [on_congr (p := pd sp.reverse d v) (p' := tn sp.length (pd sp d v)) fun j hj => by
      show decide (sh sp.reverse j d = v) = decide (sh sp (sp.length - 1 - j) d = v)
      rw [sh_rev hj]]
    cases on sp.length (tn sp.length (pd sp d v)) m with
    | none => rfl
    | some k =>
      simp only
      rw [gon_rev a b k]
theorem lk_rev {sp : Sp} {tr : List Nat} {vs : List Int} (h : vs.length = tr.length) : lk sp tr.reverse vs.reverse = (lk sp tr vs).reverse := by
  unfold lk
  exact (List.reverse_zipWith h.symm).symm
theorem e_turned {zs : List Int} {sp : Sp} {tr : List Nat} {vs : List Int} (h : Tv zs sp tr vs) : D__law_turned [lfO zs sp, T (jn tr), T vs] = .ok (Dn.L (jn (lg sp tr vs))) [some (lfO zs sp), some (T (jn tr)), some (T vs)] := by
  have t8 := h.t8
  have s61 := h.lf.s61
  have l0 := lf0 zs sp
  have l1 := lf1 zs sp
  have sl := spD_len sp
  have e1 := e_fronts h.lf.rev (tr := tr.reverse) (vs := vs.reverse) (fun k m => h.t k (List.mem_reverse.mp m)) (by rw [List.length_reverse, List.length_reverse]; exact h.vl) (by rw [List.length_reverse]; exact t8) (lo := 0) (hi := sp.length) (Nat.zero_le _) (by rw [List.length_reverse]; exact Nat.le_refl _)
  rw [lk_rev h.vl] at e1
  have gr := gon_rev (sp := sp) tr.reverse vs.reverse 0
  rw [lk_rev h.vl, lk_rev h.vl] at gr
  have gt := gon_turn (n := sp.length) (ps := (lk sp tr vs).reverse) (j := 0) (Nat.zero_le _)
  rw [← gr, Nat.sub_zero] at gt
  obtain ⟨G, hG⟩ : ∃ G, G = gon sp.length (lk sp.reverse tr vs).reverse 0 := ⟨_, rfl⟩
  rw [← hG] at e1 gt
  have gl : G.length ≤ 8 := by
    rw [hG]
    have a := gon_len sp.length (lk sp.reverse tr vs).reverse 0
    have b : (lk sp.reverse tr vs).length ≤ tr.length := by
      unfold lk
      rw [List.length_zipWith]
      omega
    rw [List.length_reverse] at a
    omega
  have gm : ∀ k ∈ G, k < sp.length := fun k m => by
    rw [hG] at m
    exact (gon_mem m).2
  have hlg : lg sp tr vs = G.map fun i => sp.length - 1 - i := gt.symm
  have lfr : lfO zs sp.reverse = .d (.tup [.tup (I zs), .tup (spD sp).reverse]) := by
    show O.d _ = _
    rw [spD_rev]
  rw [lfr, ← jn_rev] at e1
  have e2 := compL_map (vs := [5]) (g := gN 5) (c := mYes) (m := mOp oSub [.ex (mOp oSub [.ex (mOp oLen [.ex (mOp oIx [.nm 0, .ex (mC (.int 1))])]), .ex (mC (.int 1))]), .nm 5]) (e := [some (lfO zs sp), some (T (jn tr)), some (T vs), some (.d (.tup [.tup (I zs), .tup (spD sp).reverse])), some (.d (.lst (I (jn G)))), none]) (fun d => match d with | .int k => .int ((sp.length : Int) - 1 - k) | _ => .non) (I (jn G)) (fun d hd => by
    obtain ⟨i, hi, rfl⟩ := I_mem hd
    refine ⟨_, _, [some (lfO zs sp), some (T (jn tr)), some (T vs), some (.d (.tup [.tup (I zs), .tup (spD sp).reverse])), some (.d (.lst (I (jn G)))), some (N i)], rfl, rfl, ?_, rfl⟩
    simp [l1, sl]) (by rw [I_len, jn_len]; omega)
  have em : (I (jn G)).map (fun d => match d with | .int k => D.int ((sp.length : Int) - 1 - k) | _ => .non) = I (jn (lg sp tr vs)) := by
    rw [hlg]
    unfold I jn
    rw [List.map_map, List.map_map, List.map_map, List.map_map]
    refine List.map_congr_left fun k hk => ?_
    have g1 := gm k hk
    have e : (sp.length : Int) - 1 - (k : Int) = ((sp.length - 1 - k : Nat) : Int) := by omega
    simp only [Function.comp]
    rw [e]
  rw [em] at e2
  have r1 : toRv (T (jn tr)) = some (T (jn tr).reverse) := by
    show some (O.d (.tup (I (jn tr)).reverse)) = _
    rw [I_reverse]
  have r2 : toRv (T vs) = some (T vs.reverse) := by
    show some (O.d (.tup (I vs).reverse)) = _
    rw [I_reverse]
  have r3 : toRv (.d (.tup (spD sp))) = some (.d (.tup (spD sp).reverse)) := rfl
  generalize jn (lg sp tr vs) = LJ at *
  generalize jn G = GJ at *
  generalize (jn tr).reverse = TR at *
  generalize vs.reverse = VR at *
  generalize jn tr = TJ at *
  have e1' : D__law_fronts [.d (.tup [.tup (I zs), .tup (spD sp).reverse]), T TR, T VR, N 0, N sp.length] = .ok (Dn.L GJ) [some (.d (.tup [.tup (I zs), .tup (spD sp).reverse])), some (T TR), some (T VR), some (N 0), some (N sp.length)] := e1
  generalize (spD sp).reverse = SR at *
  simp [D__law_turned, m__law_turned, l0, l1, r1, r2, r3, sl, e1', e2]
/-- early and late as the law has them -/
def earlyO (sp : Sp) (tr : List Nat) (vs : List Int) : O := if (eg sp tr vs).length = tr.length then T (jn (eg sp tr vs)) else .l [.d (.str "unseen"), N (eg sp tr vs).length]
def lateO (sp : Sp) (tr : List Nat) (vs : List Int) : O := if (lg sp tr vs).length = tr.length then T (jn (lg sp tr vs).reverse) else .l [.d (.str "unseen"), N ((tr.length : Int) - 1 - (lg sp tr vs).length)]
theorem Tv.eg_le {zs : List Int} {sp : Sp} {tr : List Nat} {vs : List Int} (h : Tv zs sp tr vs) : (eg sp tr vs).length ≤ tr.length := by
  have := gon_len sp.length (lk sp tr vs) 0
  rw [h.ll] at this
  exact this
theorem Tv.lg_le {zs : List Int} {sp : Sp} {tr : List Nat} {vs : List Int} (h : Tv zs sp tr vs) : (lg sp tr vs).length ≤ tr.length := by
  have := gbk_len (lk sp tr vs).reverse sp.length
  rw [List.length_reverse, h.ll] at this
  exact this
theorem e_law_early {zs : List Int} {sp : Sp} {tr : List Nat} {vs : List Int} (h : Tv zs sp tr vs) : D__law_early [lfO zs sp, T (jn tr), T vs] = .ok (earlyO sp tr vs) [some (lfO zs sp), some (T (jn tr)), some (T vs)] := by
  have l1 := lf1 zs sp
  have sl := spD_len sp
  have e1 : D__law_fronts [lfO zs sp, T (jn tr), T vs, N 0, N sp.length] = .ok (Dn.L (jn (eg sp tr vs))) [some (lfO zs sp), some (T (jn tr)), some (T vs), some (N 0), some (N sp.length)] := e_fronts h.lf h.t h.vl h.t8 (lo := 0) (Nat.zero_le _) (Nat.le_refl _)
  have le := h.eg_le
  have jl := jn_len (eg sp tr vs)
  have jt := jn_len tr
  unfold earlyO
  by_cases q : (eg sp tr vs).length = tr.length
  · rw [if_pos q]
    have q2 : ¬ (eg sp tr vs).length < tr.length := by omega
    generalize eg sp tr vs = E at *
    generalize jn E = EJ at *
    generalize jn tr = TJ at *
    simp [D__law_early, m__law_early, l1, sl, e1, jl, jt, q]
  · rw [if_neg q]
    have q2 : (eg sp tr vs).length < tr.length := by omega
    generalize eg sp tr vs = E at *
    generalize jn E = EJ at *
    generalize jn tr = TJ at *
    simp [D__law_early, m__law_early, l1, sl, e1, jl, jt, q2]
theorem e_law_late {zs : List Int} {sp : Sp} {tr : List Nat} {vs : List Int} (h : Tv zs sp tr vs) : D__law_late [lfO zs sp, T (jn tr), T vs] = .ok (lateO sp tr vs) [some (lfO zs sp), some (T (jn tr)), some (T vs)] := by
  have e1 := e_turned h
  have le := h.lg_le
  have jl := jn_len (lg sp tr vs)
  have jt := jn_len tr
  have rv := rv_L (jn (lg sp tr vs))
  rw [jn_rev] at rv
  unfold lateO
  by_cases q : (lg sp tr vs).length = tr.length
  · rw [if_pos q]
    generalize lg sp tr vs = E at *
    generalize jn E.reverse = ER at *
    generalize jn E = EJ at *
    generalize jn tr = TJ at *
    simp [D__law_late, m__law_late, e1, jl, jt, q, rv]
  · rw [if_neg q]
    have q2 : (lg sp tr vs).length < tr.length := by omega
    generalize lg sp tr vs = E at *
    generalize jn E.reverse = ER at *
    generalize jn E = EJ at *
    generalize jn tr = TJ at *
    simp [D__law_late, m__law_late, e1, jl, jt, q2]
end K24
end
section
set_option Elab.async false
set_option linter.all false
set_option maxRecDepth 100000
set_option maxHeartbeats 4000000
namespace K24
open PySem PySem.Spec L2 L2H Dn K24M
open PyProof.Rows hiding St
theorem stg_cons (a : List Int × Int) (r : Sp) (m : Nat) : stg (a :: r) (m + 1) = stg r m := rfl
theorem cnt_mono (q : Int → Bool) : ∀ sp : Sp, (∀ m, m + 1 < sp.length → q (stg sp (m + 1)) = true → q (stg sp m) = true) →
    (sp.filter fun s => q s.2).length ≤ sp.length ∧ ∀ m, m < sp.length → (q (stg sp m) = true ↔ m < (sp.filter fun s => q s.2).length)
  | [], _ => ⟨Nat.le_refl _, fun m h => by simp at h⟩
  | a :: r, h => by
    obtain ⟨i1, i2⟩ := cnt_mono q r fun m hm => h (m + 1) (by rw [List.length_cons]; omega)
    by_cases z : q a.2 = true
    · rw [List.filter_cons_of_pos (p := fun (s : List Int × Int) => q s.2) z, List.length_cons, List.length_cons]
      refine ⟨by omega, fun m hm => ?_⟩
      cases m with
      | zero => exact ⟨fun _ => by omega, fun _ => z⟩
      | succ m =>
        rw [stg_cons, i2 m (by omega)]
        omega
    · rw [List.filter_cons_of_neg (p := fun (s : List Int × Int) => q s.2) z]
      have f0 : (r.filter fun s => q s.2).length = 0 := by
        cases hf : (r.filter fun s => q s.2).length with
        | zero => rfl
        | succ k =>
          have r0 : 0 < r.length := by omega
          have q0 := (i2 0 r0).mpr (by omega)
          exact absurd (h 0 (by rw [List.length_cons]; omega) q0) z
      rw [f0] at i2 ⊢
      refine ⟨Nat.zero_le _, fun m hm => ?_⟩
      cases m with
      | zero => exact ⟨fun y => absurd y z, fun y => by omega⟩
      | succ m =>
        rw [stg_cons, i2 m (by rw [List.length_cons] at hm; omega)]
        omega
def fst (q : Int → Bool) : D → Option D
  | .tup [r, .int s] => if q s = true then some (.tup [r, .int s]) else none
  | _ => none
theorem fst_len (q : Int → Bool) : ∀ sp : Sp, ((spD sp).filterMap (fst q)).length = (sp.filter fun s => q s.2).length
  | [] => rfl
  | a :: r => by
    have ih := fst_len q r
    have e : spD (a :: r) = .tup [.tup (I a.1), .int a.2] :: spD r := rfl
    rw [e]
    by_cases z : q a.2 = true
    · have f : fst q (.tup [.tup (I a.1), .int a.2]) = some (.tup [.tup (I a.1), .int a.2]) := by simp [fst, z]
      rw [List.filterMap_cons_some f, List.filter_cons_of_pos (p := fun (s : List Int × Int) => q s.2) z, List.length_cons, List.length_cons, ih]
    · have f : fst q (.tup [.tup (I a.1), .int a.2]) = none := by simp [fst, z]
      rw [List.filterMap_cons_none f, List.filter_cons_of_neg (p := fun (s : List Int × Int) => q s.2) z, ih]
theorem spD_mem {sp : Sp} {d : D} (h : d ∈ spD sp) : ∃ s ∈ sp, d = .tup [.tup (I s.1), .int s.2] := by
  obtain ⟨s, hs, e⟩ := List.mem_map.mp h
  exact ⟨s, hs, e.symm⟩
theorem lt_comp {sp : Sp} (hl : sp.length ≤ 61) (t : Int) (o0 o1 o2 o3 o4 o5 o7 o8 o9 o10 : Option O) :
    compL [11] (gN 11) (mB (mOp oLt [.ex (mOp oIx [.nm 11, .ex (mC (.int 1))]), .nm 6])) (mN 11) (spD sp) [o0, o1, o2, o3, o4, o5, some (N t), o7, o8, o9, o10, none] [] = .ok (((spD sp).filterMap (fst fun s => decide (s < t))).map O.d) [o0, o1, o2, o3, o4, o5, some (N t), o7, o8, o9, o10, none] := by
  have e := compL_pure (vs := [11]) (g := gN 11) (c := mB (mOp oLt [.ex (mOp oIx [.nm 11, .ex (mC (.int 1))]), .nm 6])) (m := mN 11) (e := [o0, o1, o2, o3, o4, o5, some (N t), o7, o8, o9, o10, none]) (fst fun s => decide (s < t)) (spD sp) [] (fun d hd => by
    obtain ⟨s, _, rfl⟩ := spD_mem hd
    refine ⟨[o0, o1, o2, o3, o4, o5, some (N t), o7, o8, o9, o10, some (.d (.tup [.tup (I s.1), .int s.2]))], rfl, ?_⟩
    by_cases q : s.2 < t
    · exact .inl ⟨.tup [.tup (I s.1), .int s.2], [o0, o1, o2, o3, o4, o5, some (N t), o7, o8, o9, o10, some (.d (.tup [.tup (I s.1), .int s.2]))], [o0, o1, o2, o3, o4, o5, some (N t), o7, o8, o9, o10, some (.d (.tup [.tup (I s.1), .int s.2]))], by simp [p2_1, q], by simp, by simp [fst, q], by simp⟩
    · exact .inr ⟨[o0, o1, o2, o3, o4, o5, some (N t), o7, o8, o9, o10, some (.d (.tup [.tup (I s.1), .int s.2]))], by simp [p2_1, q], by simp [fst, q], by simp⟩) (by rw [spD_len]; simp; omega)
  simpa using e
theorem le_comp {sp : Sp} (hl : sp.length ≤ 61) (t : Int) (o0 o1 o2 o3 o4 o5 o7 o8 o9 o10 : Option O) :
    compL [11] (gN 11) (mB (mOp oLe [.ex (mOp oIx [.nm 11, .ex (mC (.int 1))]), .nm 6])) (mN 11) (spD sp) [o0, o1, o2, o3, o4, o5, some (N t), o7, o8, o9, o10, none] [] = .ok (((spD sp).filterMap (fst fun s => decide (s ≤ t))).map O.d) [o0, o1, o2, o3, o4, o5, some (N t), o7, o8, o9, o10, none] := by
  have e := compL_pure (vs := [11]) (g := gN 11) (c := mB (mOp oLe [.ex (mOp oIx [.nm 11, .ex (mC (.int 1))]), .nm 6])) (m := mN 11) (e := [o0, o1, o2, o3, o4, o5, some (N t), o7, o8, o9, o10, none]) (fst fun s => decide (s ≤ t)) (spD sp) [] (fun d hd => by
    obtain ⟨s, _, rfl⟩ := spD_mem hd
    refine ⟨[o0, o1, o2, o3, o4, o5, some (N t), o7, o8, o9, o10, some (.d (.tup [.tup (I s.1), .int s.2]))], rfl, ?_⟩
    by_cases q : s.2 ≤ t
    · exact .inl ⟨.tup [.tup (I s.1), .int s.2], [o0, o1, o2, o3, o4, o5, some (N t), o7, o8, o9, o10, some (.d (.tup [.tup (I s.1), .int s.2]))], [o0, o1, o2, o3, o4, o5, some (N t), o7, o8, o9, o10, some (.d (.tup [.tup (I s.1), .int s.2]))], by simp [p2_1, q], by simp, by simp [fst, q], by simp⟩
    · exact .inr ⟨[o0, o1, o2, o3, o4, o5, some (N t), o7, o8, o9, o10, some (.d (.tup [.tup (I s.1), .int s.2]))], by simp [p2_1, q], by simp [fst, q], by simp⟩) (by rw [spD_len]; simp; omega)
  simpa using e
theorem Sg.nn {sp : Sp} (h : Sg sp) : ∀ m, m < sp.length → 0 ≤ stg sp m
  | 0, _ => by rw [h.st0]; exact Int.le_refl _
  | m + 1, hm => by
    have := h.nn m (by omega)
    rcases h.stp m hm with e | e <;> omega
theorem Sg.mono {sp : Sp} (h : Sg sp) {a : Nat} : ∀ (b : Nat), a ≤ b → b < sp.length → stg sp a ≤ stg sp b
  | 0, ha, _ => by rw [show a = 0 by omega]; exact Int.le_refl _
  | b + 1, ha, hb => by
    by_cases q : a = b + 1
    · rw [q]; exact Int.le_refl _
    · have := Sg.mono h (a := a) b (by omega) (by omega)
      rcases h.stp b hb with e | e <;> omega
/-- whether a stage is right, as the law asks it -/
theorem right_iff {zs : List Int} {sp : Sp} {tr : List Nat} {vs : List Int} {x y : Nat} (h : Tv zs sp tr vs) (g : Sg sp) (hc : (eg sp tr vs).length = tr.length) (en : En sp tr vs x y) (t : Int) :
    ((gon (sp.filter fun s => decide (s.2 < t)).length (lk sp tr vs) 0).length < tr.length ↔ t ≤ stg sp x) ∧ ((gon sp.length (lk sp tr vs) (sp.filter fun s => decide (s.2 ≤ t)).length).length < tr.length ↔ stg sp y ≤ t) := by
  obtain ⟨f1, f2⟩ := cnt_mono (fun s => decide (s < t)) sp fun m hm q => by
    have a := of_decide_eq_true q
    have b := g.mono (a := m) (m + 1) (by omega) hm
    exact decide_eq_true (by omega)
  obtain ⟨l1, l2⟩ := cnt_mono (fun s => decide (s ≤ t)) sp fun m hm q => by
    have a := of_decide_eq_true q
    have b := g.mono (a := m) (m + 1) (by omega) hm
    exact decide_eq_true (by omega)
  constructor
  · have c := gon_cut f1 (ps := lk sp tr vs) (m := 0)
    rw [h.ll] at c
    have le := gon_len (sp.filter fun s => decide (s.2 < t)).length (lk sp tr vs) 0
    rw [h.ll] at le
    have mx := gon_last en.ex
    have mem : x ∈ gon sp.length (lk sp tr vs) 0 := List.mem_of_getLast? en.ex
    have k := f2 x en.xl
    simp only [decide_eq_true_eq] at k
    have all : (∀ e ∈ gon sp.length (lk sp tr vs) 0, e < (sp.filter fun s => decide (s.2 < t)).length) ↔ x < (sp.filter fun s => decide (s.2 < t)).length :=
      ⟨fun z => z x mem, fun z e he => by have := mx e he; omega⟩
    have hc' : (gon sp.length (lk sp tr vs) 0).length = tr.length := hc
    rw [all] at c
    constructor
    · intro z
      by_cases y2 : stg sp x < t
      · have := c.mpr ⟨hc', k.mp y2⟩
        omega
      · omega
    · intro z
      by_cases y2 : (gon (sp.filter fun s => decide (s.2 < t)).length (lk sp tr vs) 0).length = tr.length
      · have := k.mpr (c.mp y2).2
        omega
      · omega
  · have a := Wt.gon (hi := sp.length) (ps := lk sp tr vs) (lo := (sp.filter fun s => decide (s.2 ≤ t)).length)
    have b := Wt.gbk (lo := (sp.filter fun s => decide (s.2 ≤ t)).length) (ps := (lk sp tr vs).reverse) (hi := sp.length)
    rw [List.reverse_reverse, a, List.length_reverse, h.ll] at b
    have le := gon_len sp.length (lk sp tr vs) (sp.filter fun s => decide (s.2 ≤ t)).length
    rw [h.ll] at le
    have mx := gbk_last en.ly
    have mem : y ∈ gbk (lk sp tr vs).reverse sp.length := List.mem_of_getLast? en.ly
    have k := l2 y en.yl
    simp only [decide_eq_true_eq] at k
    have hl : (gbk (lk sp tr vs).reverse sp.length).length = tr.length := (seen_iff h).mp hc
    constructor
    · intro z
      by_cases y2 : stg sp y ≤ t
      · exact y2
      · have ny : ¬ y < (sp.filter fun s => decide (s.2 ≤ t)).length := fun q => y2 (k.mpr q)
        have := b.mpr ⟨hl, fun e he => by have := mx e he; omega⟩
        omega
    · intro z
      have ky := k.mp z
      by_cases y2 : (gon sp.length (lk sp tr vs) (sp.filter fun s => decide (s.2 ≤ t)).length).length = tr.length
      · have := (b.mp y2).2 y mem
        omega
      · omega
end K24
end
section
set_option Elab.async false
set_option linter.all false
set_option maxRecDepth 100000
set_option maxHeartbeats 4000000
namespace K24
open PySem PySem.Spec L2 L2H Dn K24M
open PyProof.Rows hiding St
def bSp : MS := mSeq (mSet 7 (mOp oLen [.ex (mComp (mIt itS (mN 4)) [11] (gN 11) (mB (mOp oLt [.ex (mOp oIx [.nm 11, .ex (mC (.int 1))]), .nm 6])) (mN 11))]))
  (mSeq (mSet 8 (mOp oLen [.ex (mComp (mIt itS (mN 4)) [11] (gN 11) (mB (mOp oLe [.ex (mOp oIx [.nm 11, .ex (mC (.int 1))]), .nm 6])) (mN 11))]))
  (mSeq (mSet 9 (mCall D__law_fronts [.nm 0, .nm 1, .nm 2, .ex (mC (.int 0)), .nm 7]))
  (mSeq (mSet 10 (mCall D__law_fronts [.nm 0, .nm 1, .nm 2, .nm 8, .ex (mOp oLen [.nm 4])]))
  (mIf (mTAnd (mB (mOp oLt [.ex (mOp oLen [.nm 9]), .ex (mOp oLen [.nm 1])])) (mB (mOp oLt [.ex (mOp oLen [.nm 10]), .ex (mOp oLen [.nm 1])]))) (mExpr (mMut 5 fApp [.ex (mN 6)])) (mPass)))))
theorem span_loop {zs : List Int} {sp : Sp} {tr : List Nat} {vs : List Int} {x y : Nat} (h : Tv zs sp tr vs) (g : Sg sp) (hc : (eg sp tr vs).length = tr.length) (en : En sp tr vs x y) {a b : Nat} (ha : (a : Int) = stg sp y) (hb : (b : Int) = stg sp x) (o3 : Option O) :
    ∀ (cnt t : Nat) (w6 w7 w8 w9 w10 : Option O), t + cnt ≤ 1000 → ∃ w6' w7' w8' w9' w10', forL (gN 6) bSp ((List.range' t cnt).map fun (i : Nat) => D.int i) [some (lfO zs sp), some (T (jn tr)), some (T vs), o3, some (.d (.tup (spD sp))), some (Dn.L (jn (List.range' a (min t (b + 1) - a)))), w6, w7, w8, w9, w10, none] =
      .nx [some (lfO zs sp), some (T (jn tr)), some (T vs), o3, some (.d (.tup (spD sp))), some (Dn.L (jn (List.range' a (min (t + cnt) (b + 1) - a)))), w6', w7', w8', w9', w10', none]
  | 0, t, w6, w7, w8, w9, w10, _ => ⟨w6, w7, w8, w9, w10, rfl⟩
  | cnt + 1, t, w6, w7, w8, w9, w10, hl => by
    have s61 := h.lf.s61
    have sl := spD_len sp
    obtain ⟨r1, r2⟩ := right_iff h g hc en (t : Int)
    obtain ⟨f1, -⟩ := cnt_mono (fun s => decide (s < (t : Int))) sp fun m hm q => by
      have z1 := of_decide_eq_true q
      have z2 := g.mono (a := m) (m + 1) (by omega) hm
      exact decide_eq_true (by omega)
    obtain ⟨l1, -⟩ := cnt_mono (fun s => decide (s ≤ (t : Int))) sp fun m hm q => by
      have z1 := of_decide_eq_true q
      have z2 := g.mono (a := m) (m + 1) (by omega) hm
      exact decide_eq_true (by omega)
    have c1 := lt_comp s61 (t : Int) (some (lfO zs sp)) (some (T (jn tr))) (some (T vs)) o3 (some (.d (.tup (spD sp)))) (some (Dn.L (jn (List.range' a (min t (b + 1) - a))))) w7 w8 w9 w10
    have n1 := fst_len (fun s => decide (s < (t : Int))) sp
    have n2 := fst_len (fun s => decide (s ≤ (t : Int))) sp
    obtain ⟨F, hF⟩ : ∃ F, F = (sp.filter fun s => decide (s.2 < (t : Int))).length := ⟨_, rfl⟩
    obtain ⟨Lx, hL⟩ : ∃ Lx, Lx = (sp.filter fun s => decide (s.2 ≤ (t : Int))).length := ⟨_, rfl⟩
    rw [← hF] at r1 f1 n1
    rw [← hL] at r2 l1 n2
    have c2 := le_comp s61 (t : Int) (some (lfO zs sp)) (some (T (jn tr))) (some (T vs)) o3 (some (.d (.tup (spD sp)))) (some (Dn.L (jn (List.range' a (min t (b + 1) - a))))) (some (N F)) w8 w9 w10
    have e1 : D__law_fronts [lfO zs sp, T (jn tr), T vs, N 0, N F] = .ok (Dn.L (jn (gon F (lk sp tr vs) 0))) [some (lfO zs sp), some (T (jn tr)), some (T vs), some (N 0), some (N F)] := e_fronts h.lf h.t h.vl h.t8 (lo := 0) (Nat.zero_le _) f1
    have e2 := e_fronts h.lf h.t h.vl h.t8 l1 (Nat.le_refl _)
    have j1 := jn_len (gon F (lk sp tr vs) 0)
    have j2 := jn_len (gon sp.length (lk sp tr vs) Lx)
    have jt := jn_len tr
    have rl : (jn (List.range' a (min t (b + 1) - a))).length < 16000000 := by
      rw [jn_len]
      simp
      omega
    obtain ⟨w6', w7', w8', w9', w10', ih⟩ := span_loop h g hc en ha hb o3 cnt (t + 1) (some (N t)) (some (N F)) (some (N Lx)) (some (Dn.L (jn (gon F (lk sp tr vs) 0)))) (some (Dn.L (jn (gon sp.length (lk sp tr vs) Lx)))) (by omega)
    refine ⟨w6', w7', w8', w9', w10', ?_⟩
    rw [List.range'_succ, List.map_cons, forL_cons, show t + (cnt + 1) = t + 1 + cnt by omega, ← ih]
    generalize (spD sp).filterMap (fst fun s => decide (s < (t : Int))) = FF at *
    generalize (spD sp).filterMap (fst fun s => decide (s ≤ (t : Int))) = FL at *
    generalize gon F (lk sp tr vs) 0 = G1 at *
    generalize gon sp.length (lk sp tr vs) Lx = G2 at *
    by_cases q : a ≤ t ∧ t ≤ b
    · have q1 : G1.length < tr.length := r1.mpr (by omega)
      have q2 : G2.length < tr.length := r2.mpr (by omega)
      have er : jn (List.range' a (min (t + 1) (b + 1) - a)) = jn (List.range' a (min t (b + 1) - a)) ++ [(t : Int)] := by
        rw [show min (t + 1) (b + 1) - a = (min t (b + 1) - a) + 1 by omega, List.range'_1_concat, jn_snoc, show a + (min t (b + 1) - a) = t by omega]
      rw [er]
      generalize jn (List.range' a (min t (b + 1) - a)) = RR at *
      generalize jn G1 = J1 at *
      generalize jn G2 = J2 at *
      generalize jn tr = TJ at *
      generalize spD sp = SD at *
      simp [bSp, c1, n1, c2, n2, sl, e1, e2, j1, j2, jt, q1, q2, rl]
    · have er : min (t + 1) (b + 1) - a = min t (b + 1) - a := by omega
      rw [er]
      have nq : ¬ (G1.length < tr.length ∧ G2.length < tr.length) := fun z => q ⟨by have := r2.mp z.2; omega, by have := r1.mp z.1; omega⟩
      generalize jn (List.range' a (min t (b + 1) - a)) = RR at *
      generalize jn G1 = J1 at *
      generalize jn G2 = J2 at *
      generalize jn tr = TJ at *
      generalize spD sp = SD at *
      by_cases q1 : G1.length < tr.length
      · have q2 : ¬ G2.length < tr.length := fun z => nq ⟨q1, z⟩
        simp [bSp, c1, n1, c2, n2, sl, e1, e2, j1, j2, jt, q1, q2]
      · simp [bSp, c1, n1, c2, n2, sl, e1, e2, j1, j2, jt, q1]
theorem e_law_span_x {zs : List Int} {sp : Sp} {tr : List Nat} {vs : List Int} (h : Tv zs sp tr vs) (hc : ¬ (eg sp tr vs).length = tr.length) : D__law_span [lfO zs sp, T (jn tr), T vs] = .ok (.l [.d (.str "unseen"), N (eg sp tr vs).length]) [some (lfO zs sp), some (T (jn tr)), some (T vs)] := by
  have e1 := e_law_early h
  unfold earlyO at e1
  rw [if_neg hc] at e1
  simp [D__law_span, m__law_span, e1]
theorem stg_last {zs : List Int} {sp : Sp} (h : Lf zs sp) : atI (spD sp) (-1) = some (.tup [.tup (I (row sp (sp.length - 1))), .int (stg sp (sp.length - 1))]) := by
  have s1 := h.s1
  refine at_last ?_
  rw [List.getLast?_eq_getElem?, spD_len]
  exact spD_get (by omega)
theorem e_law_span {zs : List Int} {sp : Sp} {tr : List Nat} {vs : List Int} {x y : Nat} (h : Tv zs sp tr vs) (g : Sg sp) (hc : (eg sp tr vs).length = tr.length) (en : En sp tr vs x y) : D__law_span [lfO zs sp, T (jn tr), T vs] = .ok (.d (spanD (stg sp y) (stg sp x))) [some (lfO zs sp), some (T (jn tr)), some (T vs)] := by
  have e1 := e_law_early h
  unfold earlyO at e1
  rw [if_pos hc] at e1
  have s1 := h.lf.s1
  have s61 := h.lf.s61
  have l1 := lf1 zs sp
  have sl := stg_last h.lf
  have bound : ∀ m, m < sp.length → stg sp m ≤ m := by
    intro m
    induction m with
    | zero => intro _; rw [g.st0]; exact Int.le_refl _
    | succ m ih =>
      intro hm
      have := ih (by omega)
      rcases g.stp m hm with e | e <;> omega
  obtain ⟨a, ha⟩ : ∃ a : Nat, (a : Int) = stg sp y := ⟨(stg sp y).toNat, by have := g.nn y en.yl; omega⟩
  obtain ⟨b, hb⟩ : ∃ b : Nat, (b : Int) = stg sp x := ⟨(stg sp x).toNat, by have := g.nn x en.xl; omega⟩
  obtain ⟨S, hS⟩ : ∃ S : Nat, (S : Int) = stg sp (sp.length - 1) := ⟨(stg sp (sp.length - 1)).toNat, by have := g.nn (sp.length - 1) (by omega); omega⟩
  have aS : a ≤ S := by
    have := g.mono (a := y) (sp.length - 1) (by have := en.yl; omega) (by omega)
    omega
  have bS : b ≤ S := by
    have := g.mono (a := x) (sp.length - 1) (by have := en.xl; omega) (by omega)
    omega
  have S61 : S ≤ 61 := by
    have := bound (sp.length - 1) (by omega)
    omega
  obtain ⟨w6, w7, w8, w9, w10, e2⟩ := span_loop h g hc en ha hb (some (T (jn (eg sp tr vs)))) (S + 1) 0 none none none none none (by omega)
  have r0 : List.range' a (min 0 (b + 1) - a) = [] := by rw [show min 0 (b + 1) - a = 0 by omega]; rfl
  have L0 : Dn.L (jn []) = .l [] := rfl
  rw [r0, L0, ← List.range_eq_range', ← rgD_zero, Nat.zero_add, show min (S + 1) (b + 1) - a = b + 1 - a by omega] at e2
  have c1 := rg62 (r := (S : Int) + 1) (by omega) (by omega)
  have tn' : ((S : Int) + 1).toNat = S + 1 := by omega
  unfold bSp at e2
  rw [← hS] at sl
  rw [← ha, ← hb]
  have rlen := jn_len (List.range' a (b + 1 - a))
  rw [List.length_range'] at rlen
  have st : atI (spD sp) (-1) = some (.tup [.tup (I (row sp (sp.length - 1))), .int S]) := sl
  by_cases q : b < a
  · have z : b + 1 - a = 0 := by omega
    have q2 : (b : Int) < a := by omega
    rw [z] at rlen e2
    have r1 : List.range' a 0 = [] := rfl
    rw [r1, L0] at e2
    generalize jn (eg sp tr vs) = EJ at *
    generalize jn tr = TJ at *
    generalize spD sp = SD at *
    simp [D__law_span, m__law_span, e1, l1, st, p2_1, c1, tn', e2, spanD, q2, tyN]
  · have q2 : ¬ (b : Int) < a := by omega
    obtain ⟨k, hk⟩ : ∃ k, b + 1 - a = k + 1 := ⟨b - a, by omega⟩
    rw [hk] at rlen e2
    have f0 : (jn (List.range' a (k + 1)))[0]? = some (a : Int) := rfl
    have fl : atI (I (jn (List.range' a (k + 1)))) (-1) = some (.int b) := by
      refine at_last (jn_last ?_)
      rw [List.range'_1_concat, List.getLast?_append]
      simp
      omega
    have n0 : ¬ (jn (List.range' a (k + 1))).length = 0 := by omega
    generalize jn (List.range' a (k + 1)) = RJ at *
    generalize jn (eg sp tr vs) = EJ at *
    generalize jn tr = TJ at *
    generalize spD sp = SD at *
    have n1 : ¬ RJ = [] := fun z => n0 (by rw [z]; rfl)
    simp [D__law_span, m__law_span, e1, l1, st, p2_1, c1, tn', e2, spanD, q2, tyN, n1, n0, f0, fl]
end K24
end
section
set_option Elab.async false
set_option linter.all false
set_option maxRecDepth 100000
set_option maxHeartbeats 4000000
namespace K24
open PySem PySem.Spec L2 L2H Dn K24M
open PyProof.Rows hiding St
def bMo : MS := mIf (mTOr (mTNot (mB (mOp (oIsi "int") [.nm 3]))) (mTOr (mB (mOp (oIsi "bool") [.nm 3])) (mTNot (mB (mAnd (mOp oLe [.ex (mC (.int 0)), .nm 3]) (mOp oLt [.nm 3, .ex (mOp oLen [.ex (mOp oIx [.nm 0, .ex (mC (.int 1))])])])))))) (mRet (mC (.bl false))) (mPass)
theorem mo_loop {zs : List Int} {sp : Sp} (o1 o2 : Option O) : ∀ (ds : List D) (w3 : Option O), ∃ w3', seqE (mRet (mC (.bl true))) (forL (gN 3) bMo ds [some (lfO zs sp), o1, o2, w3]) = .rt (.d (.bl ((ds.map fun d => below d sp.length).all id))) [some (lfO zs sp), o1, o2, w3']
  | [], w3 => ⟨w3, by simp⟩
  | d :: ds, w3 => by
    have l1 := lf1 zs sp
    have sl := spD_len sp
    obtain ⟨w3', ih⟩ := mo_loop (zs := zs) (sp := sp) o1 o2 ds (some (.d d))
    cases d with
    | int i =>
      by_cases q : 0 ≤ i
      · by_cases q2 : i < (sp.length : Int)
        · refine ⟨w3', ?_⟩
          have e : ((D.int i :: ds).map fun d => below d sp.length).all id = (ds.map fun d => below d sp.length).all id := by simp [below, q, q2]
          rw [e, ← ih]
          generalize spD sp = SD at *
          simp [forL_cons, bMo, tyN, q, l1, sl, q2]
        · refine ⟨some (N i), ?_⟩
          have e : ((D.int i :: ds).map fun d => below d sp.length).all id = false := by simp [below, q2]
          rw [e]
          generalize spD sp = SD at *
          simp [forL_cons, bMo, tyN, q, l1, sl, q2]
      · refine ⟨some (N i), ?_⟩
        have e : ((D.int i :: ds).map fun d => below d sp.length).all id = false := by simp [below, q]
        rw [e]
        simp [forL_cons, bMo, tyN, q]
    | bl b => exact ⟨some (.d (.bl b)), by simp [forL_cons, bMo, tyN, below]⟩
    | non => exact ⟨some (.d .non), by simp [forL_cons, bMo, tyN, below]⟩
    | str s => exact ⟨some (.d (.str s)), by simp [forL_cons, bMo, tyN, below]⟩
    | tup s => exact ⟨some (.d (.tup s)), by simp [forL_cons, bMo, tyN, below]⟩
    | lst s => exact ⟨some (.d (.lst s)), by simp [forL_cons, bMo, tyN, below]⟩
    | scr s => exact ⟨some (.d (.scr s)), by simp [forL_cons, bMo, tyN, below]⟩
theorem e_law_moments {zs : List Int} {sp : Sp} (tr : List Nat) (d : D) : D__law_moments [lfO zs sp, T (jn tr), .d d] = .ok (.d (.bl (momB sp.length tr.length d))) [some (lfO zs sp), some (T (jn tr)), some (.d d)] := by
  have jt := jn_len tr
  cases d with
  | tup ds =>
    obtain ⟨w3, e⟩ := mo_loop (zs := zs) (sp := sp) (some (T (jn tr))) (some (.d (.tup ds))) ds none
    unfold bMo at e
    generalize jn tr = TJ at *
    by_cases q : ds.length = tr.length
    · have q2 : (ds.length : Int) = tr.length := by omega
      simp [D__law_moments, m__law_moments, momB, tyN, q, q2, jt, e]
    · have q2 : ¬ (ds.length : Int) = tr.length := by omega
      simp [D__law_moments, m__law_moments, momB, tyN, q, q2, jt]
  | _ => simp [D__law_moments, m__law_moments, momB, tyN]
/-! the law's reading of a paper -/
abbrev paO (w : Str) (i : Int) : O := .l [.d (.str "paper"), .d (.str w), N i]
def bQ1 : MS := mIf (mTOr (mB (mOp oGe [.nm 5, .ex (mOp oLen [.nm 4])])) (mB (mOp (oEq true) [.ex (mOp oIx [.ex (mOp oIx [.nm 3, .ex (mC (.int 0))]), .nm 5]), .ex (mOp oIx [.nm 4, .nm 5])]))) (mRet (mAll oLst [.ex (mC (.str "paper")), .ex (mC (.str "early")), .ex (mMv 5)])) (mPass)
theorem q1_loop {A E : List Nat} {b : D} {k : Nat} (hA : A.length = k) (hE : E.length ≤ k) (o0 o1 o2 : Option O) : ∀ (cnt i : Nat) (w5 : Option O), i + cnt = k →
    (mis (E.drop i) (A.drop i) = none → ∃ w5', forL (gN 5) bQ1 ((List.range' i cnt).map fun (i : Nat) => D.int i) [o0, o1, o2, some (.d (.tup [.tup (I (jn A)), b])), some (Dn.L (jn E)), w5] = .nx [o0, o1, o2, some (.d (.tup [.tup (I (jn A)), b])), some (Dn.L (jn E)), w5']) ∧
    (∀ e, mis (E.drop i) (A.drop i) = some e → ∃ w5', forL (gN 5) bQ1 ((List.range' i cnt).map fun (i : Nat) => D.int i) [o0, o1, o2, some (.d (.tup [.tup (I (jn A)), b])), some (Dn.L (jn E)), w5] = .rt (paO "early" ((i + e : Nat) : Int)) [o0, o1, o2, some (.d (.tup [.tup (I (jn A)), b])), some (Dn.L (jn E)), w5'])
  | 0, i, w5, hi => by
    have e : A.drop i = [] := List.drop_eq_nil_of_le (by omega)
    rw [e, mis_nil]
    exact ⟨fun _ => ⟨w5, rfl⟩, fun e z => by cases z⟩
  | cnt + 1, i, w5, hi => by
    obtain ⟨a, ha⟩ : ∃ a, A[i]? = some a := ⟨_, List.getElem?_eq_getElem (by omega)⟩
    have a1 := jn_get ha
    have eA : A.drop i = a :: A.drop (i + 1) := by
      obtain ⟨h1, h2⟩ := List.getElem?_eq_some_iff.mp ha
      rw [List.drop_eq_getElem_cons h1, h2]
    obtain ⟨i1, i2⟩ := q1_loop (b := b) hA hE o0 o1 o2 cnt (i + 1) (some (N i)) (by omega)
    have jl := jn_len E
    rw [List.range'_succ, List.map_cons, eA]
    by_cases q : i < E.length
    · obtain ⟨x, hx⟩ : ∃ x, E[i]? = some x := ⟨_, List.getElem?_eq_getElem q⟩
      have x1 := jn_get hx
      have eE : E.drop i = x :: E.drop (i + 1) := by
        obtain ⟨h1, h2⟩ := List.getElem?_eq_some_iff.mp hx
        rw [List.drop_eq_getElem_cons h1, h2]
      rw [eE]
      have q2 : ¬ E.length ≤ i := by omega
      have q3 : ¬ (E.length : Int) ≤ i := by omega
      by_cases z : x = a
      · subst z
        have step : ∀ r, forL (gN 5) bQ1 ((List.range' (i + 1) cnt).map fun (i : Nat) => D.int i) [o0, o1, o2, some (.d (.tup [.tup (I (jn A)), b])), some (Dn.L (jn E)), some (N i)] = r → forL (gN 5) bQ1 (D.int (i : Nat) :: (List.range' (i + 1) cnt).map fun (i : Nat) => D.int i) [o0, o1, o2, some (.d (.tup [.tup (I (jn A)), b])), some (Dn.L (jn E)), w5] = r := by
          intro r hr
          rw [← hr]
          generalize jn A = AJ at *
          generalize jn E = EJ at *
          simp [forL_cons, bQ1, jl, q2, q3, p2_0, ↓a1, ↓x1]
        constructor
        · intro y
          simp [mis] at y
          obtain ⟨w5', e⟩ := i1 y
          exact ⟨w5', step _ e⟩
        · intro e y
          simp [mis] at y
          obtain ⟨j, yj, rfl⟩ := y
          obtain ⟨w5', e⟩ := i2 j yj
          refine ⟨w5', step _ ?_⟩
          rw [e, show i + 1 + j = i + (j + 1) by omega]
      · refine ⟨fun y => by simp [mis, z] at y, fun e y => ⟨some (N i), ?_⟩⟩
        simp [mis, z] at y
        subst y
        have z2 : ¬ (a : Int) = x := by omega
        have z3 : ¬ a = x := fun y => z y.symm
        generalize jn A = AJ at *
        generalize jn E = EJ at *
        simp [forL_cons, bQ1, jl, q2, q3, p2_0, ↓a1, ↓x1, z2, z3]
    · have eE : E.drop i = [] := List.drop_eq_nil_of_le (by omega)
      rw [eE]
      refine ⟨fun y => by simp [mis] at y, fun e y => ⟨some (N i), ?_⟩⟩
      simp [mis] at y
      subst y
      have q2 : E.length ≤ i := by omega
      have q3 : (E.length : Int) ≤ i := by omega
      generalize jn A = AJ at *
      generalize jn E = EJ at *
      simp [forL_cons, bQ1, jl, q2, q3]
end K24
end
section
set_option Elab.async false
set_option linter.all false
set_option maxRecDepth 100000
set_option maxHeartbeats 4000000
namespace K24
open PySem PySem.Spec L2 L2H Dn K24M
open PyProof.Rows hiding St
def bQ2 : MS := mIf (mB (mOp (oEq true) [.ex (mOp oIx [.ex (mOp oIx [.nm 3, .ex (mC (.int 1))]), .nm 5]), .ex (mOp oIx [.nm 4, .ex (mOp oSub [.ex (mOp oSub [.ex (mOp oLen [.nm 1]), .ex (mC (.int 1))]), .nm 5])])])) (mRet (mAll oLst [.ex (mC (.str "paper")), .ex (mC (.str "late")), .ex (mMv 5)])) (mPass)
theorem q2_loop {tr F B : List Nat} {a : D} (h8 : tr.length ≤ 8) (hF : F.length = tr.length) (hB : B.length = tr.length) (o0 o2 : Option O) : ∀ (j i : Nat) (w5 : Option O), i + j = tr.length →
    (mis (F.drop i) (B.take j).reverse = none → ∃ w5', forL (gN 5) bQ2 (I (jn (List.range j).reverse)) [o0, some (T (jn tr)), o2, some (.d (.tup [a, .tup (I (jn B))])), some (Dn.L (jn F)), w5] = .nx [o0, some (T (jn tr)), o2, some (.d (.tup [a, .tup (I (jn B))])), some (Dn.L (jn F)), w5']) ∧
    (∀ e, mis (F.drop i) (B.take j).reverse = some e → ∃ w5', forL (gN 5) bQ2 (I (jn (List.range j).reverse)) [o0, some (T (jn tr)), o2, some (.d (.tup [a, .tup (I (jn B))])), some (Dn.L (jn F)), w5] = .rt (paO "late" ((j : Int) - 1 - e)) [o0, some (T (jn tr)), o2, some (.d (.tup [a, .tup (I (jn B))])), some (Dn.L (jn F)), w5'])
  | 0, i, w5, hi => ⟨fun _ => ⟨w5, by simp [jn]⟩, fun e z => by rw [List.take_zero, List.reverse_nil, mis_nil] at z; cases z⟩
  | j + 1, i, w5, hi => by
    obtain ⟨b, hb⟩ : ∃ b, B[j]? = some b := ⟨_, List.getElem?_eq_getElem (by omega)⟩
    have b1 := jn_get hb
    obtain ⟨f, hf⟩ : ∃ f, F[i]? = some f := ⟨_, List.getElem?_eq_getElem (by omega)⟩
    have f1 := jn_get hf
    have eF : F.drop i = f :: F.drop (i + 1) := by
      obtain ⟨h1, h2⟩ := List.getElem?_eq_some_iff.mp hf
      rw [List.drop_eq_getElem_cons h1, h2]
    have eb : (B.take (j + 1)).reverse = b :: (B.take j).reverse := by
      rw [List.take_succ, hb, List.reverse_append]
      rfl
    have er : (List.range (j + 1)).reverse = j :: (List.range j).reverse := by
      rw [List.range_succ, List.reverse_append]
      rfl
    have jc : jn (j :: (List.range j).reverse) = (j : Int) :: jn (List.range j).reverse := rfl
    have ji : (tr.length : Int) - 1 - j = (i : Int) := by omega
    have jl := jn_len tr
    obtain ⟨i1, i2⟩ := q2_loop (a := a) h8 hF hB o0 o2 j (i + 1) (some (N j)) (by omega)
    rw [er, jc, eb, eF]
    obtain ⟨BJ, hBJ⟩ : ∃ BJ, BJ = jn B := ⟨_, rfl⟩
    obtain ⟨FJ, hFJ⟩ : ∃ FJ, FJ = jn F := ⟨_, rfl⟩
    obtain ⟨TJ, hTJ⟩ : ∃ TJ, TJ = jn tr := ⟨_, rfl⟩
    obtain ⟨RJ, hRJ⟩ : ∃ RJ, RJ = jn (List.range j).reverse := ⟨_, rfl⟩
    rw [← hBJ] at b1 i1 i2 ⊢
    rw [← hFJ] at f1 i1 i2 ⊢
    rw [← hTJ] at jl i1 i2 ⊢
    rw [← hRJ] at i1 i2 ⊢
    by_cases z : f = b
    · subst z
      have step : ∀ r, forL (gN 5) bQ2 (I RJ) [o0, some (T TJ), o2, some (.d (.tup [a, .tup (I BJ)])), some (Dn.L FJ), some (N j)] = r → forL (gN 5) bQ2 (I ((j : Int) :: RJ)) [o0, some (T TJ), o2, some (.d (.tup [a, .tup (I BJ)])), some (Dn.L FJ), w5] = r := by
        intro r hr
        rw [← hr]
        simp [forL_cons, bQ2, p2_1, ↓b1, ↓f1, jl, ji]
      constructor
      · intro y
        simp [mis] at y
        obtain ⟨w5', e⟩ := i1 (by simpa using y)
        exact ⟨w5', step _ e⟩
      · intro e y
        simp [mis] at y
        obtain ⟨k, yk, rfl⟩ := y
        obtain ⟨w5', e⟩ := i2 k (by simpa using yk)
        refine ⟨w5', step _ ?_⟩
        rw [e, show (j : Int) - 1 - (k : Int) = ((j + 1 : Nat) : Int) - 1 - ((k + 1 : Nat) : Int) by omega]
    · refine ⟨fun y => by simp [mis, z] at y, fun e y => ⟨some (N j), ?_⟩⟩
      simp [mis, z] at y
      subst y
      have z2 : ¬ (b : Int) = f := by omega
      have z3 : ¬ b = f := fun y => z y.symm
      simp [forL_cons, bQ2, p2_1, ↓b1, ↓f1, jl, ji, z2, z3]
end K24
end
section
set_option Elab.async false
set_option linter.all false
set_option maxRecDepth 100000
set_option maxHeartbeats 4000000
namespace K24
open PySem PySem.Spec L2 L2H Dn K24M
open PyProof.Rows hiding St
section
variable {zs : List Int} {sp : Sp} {tr : List Nat} {vs : List Int}
theorem lw_shape (h : Tv zs sp tr vs) {t : D} (ht : ¬ isPair t) : D__law_paper [lfO zs sp, T (jn tr), T vs, .d t] = .ok (paO "shape" (-1)) [some (lfO zs sp), some (T (jn tr)), some (T vs), some (.d t)] := by
  cases t with
  | tup ds =>
    have q : ¬ ds.length = 2 := fun z => ht (by
      match ds, z with
      | [a, b], _ => exact ⟨a, b, rfl⟩)
    have q2 : ¬ (ds.length : Int) = 2 := by omega
    generalize jn tr = TJ at *
    simp [D__law_paper, m__law_paper, q, q2, tyN]
  | _ =>
    generalize jn tr = TJ at *
    simp [D__law_paper, m__law_paper, tyN]
theorem lw_early (h : Tv zs sp tr vs) {a b : D} (hm : momB sp.length tr.length a = false) : D__law_paper [lfO zs sp, T (jn tr), T vs, .d (.tup [a, b])] = .ok (paO "early" (-1)) [some (lfO zs sp), some (T (jn tr)), some (T vs), some (.d (.tup [a, b]))] := by
  have e1 := e_law_moments (zs := zs) (sp := sp) tr a
  rw [hm] at e1
  generalize jn tr = TJ at *
  simp [D__law_paper, m__law_paper, tyN, p2_0, e1]
theorem lw_early_at (h : Tv zs sp tr vs) {A : List Nat} {b : D} (hA : A.length = tr.length) (hn : ∀ x ∈ A, x < sp.length) {i : Nat} (hm : mis (eg sp tr vs) A = some i) : D__law_paper [lfO zs sp, T (jn tr), T vs, .d (.tup [.tup (I (jn A)), b])] = .ok (paO "early" i) [some (lfO zs sp), some (T (jn tr)), some (T vs), some (.d (.tup [.tup (I (jn A)), b]))] := by
  have e1 := e_law_moments (zs := zs) (sp := sp) tr (.tup (I (jn A)))
  rw [momB_T hA hn] at e1
  have ef : D__law_fronts [lfO zs sp, T (jn tr), T vs, N 0, N sp.length] = .ok (Dn.L (jn (eg sp tr vs))) [some (lfO zs sp), some (T (jn tr)), some (T vs), some (N 0), some (N sp.length)] := e_fronts h.lf h.t h.vl h.t8 (lo := 0) (hi := sp.length) (Nat.zero_le _) (Nat.le_refl _)
  have t8 := h.t8
  have t62 : (tr.length : Int) < 4611686018427387904 := by omega
  obtain ⟨w5, q⟩ := (q1_loop (b := b) hA h.eg_le (some (lfO zs sp)) (some (T (jn tr))) (some (T vs)) tr.length 0 none (Nat.zero_add _)).2 i hm
  rw [Nat.zero_add] at q
  rw [← rgD_nat, Int.natCast_zero] at q
  have l1 := lf1 zs sp
  have sl := spD_len sp
  have jl := jn_len tr
  unfold bQ1 at q
  generalize jn A = AJ at *
  generalize jn tr = TJ at *
  generalize jn (eg sp tr vs) = EJ at *
  simp [D__law_paper, m__law_paper, tyN, p2_0, e1, l1, sl, ef, jl, q, t62]
theorem lw_late (h : Tv zs sp tr vs) (hc : (eg sp tr vs).length = tr.length) {b : D} (hm : momB sp.length tr.length b = false) : D__law_paper [lfO zs sp, T (jn tr), T vs, .d (.tup [.tup (I (jn (eg sp tr vs))), b])] = .ok (paO "late" (-1)) [some (lfO zs sp), some (T (jn tr)), some (T vs), some (.d (.tup [.tup (I (jn (eg sp tr vs))), b]))] := by
  have e1 := e_law_moments (zs := zs) (sp := sp) tr (.tup (I (jn (eg sp tr vs))))
  rw [momB_T hc eg_lt] at e1
  have e3 := e_law_moments (zs := zs) (sp := sp) tr b
  rw [hm] at e3
  have ef : D__law_fronts [lfO zs sp, T (jn tr), T vs, N 0, N sp.length] = .ok (Dn.L (jn (eg sp tr vs))) [some (lfO zs sp), some (T (jn tr)), some (T vs), some (N 0), some (N sp.length)] := e_fronts h.lf h.t h.vl h.t8 (lo := 0) (hi := sp.length) (Nat.zero_le _) (Nat.le_refl _)
  have t8 := h.t8
  have t62 : (tr.length : Int) < 4611686018427387904 := by omega
  obtain ⟨w5, q⟩ := (q1_loop (b := b) hc h.eg_le (some (lfO zs sp)) (some (T (jn tr))) (some (T vs)) tr.length 0 none (Nat.zero_add _)).1 (mis_same _)
  rw [← rgD_nat, Int.natCast_zero] at q
  have l1 := lf1 zs sp
  have sl := spD_len sp
  have jl := jn_len tr
  unfold bQ1 at q
  generalize jn tr = TJ at *
  generalize jn (eg sp tr vs) = EJ at *
  simp [D__law_paper, m__law_paper, tyN, p2_0, p2_1, e1, e3, l1, sl, ef, jl, q, t62]
theorem lw_late_at (h : Tv zs sp tr vs) (hc : (eg sp tr vs).length = tr.length) {B : List Nat} (hB : B.length = tr.length) (hn : ∀ x ∈ B, x < sp.length) {i : Nat} (hm : mis (lg sp tr vs) B.reverse = some i) : D__law_paper [lfO zs sp, T (jn tr), T vs, .d (.tup [.tup (I (jn (eg sp tr vs))), .tup (I (jn B))])] = .ok (paO "late" ((tr.length : Int) - 1 - i)) [some (lfO zs sp), some (T (jn tr)), some (T vs), some (.d (.tup [.tup (I (jn (eg sp tr vs))), .tup (I (jn B))]))] := by
  have e1 := e_law_moments (zs := zs) (sp := sp) tr (.tup (I (jn (eg sp tr vs))))
  rw [momB_T hc eg_lt] at e1
  have e3 := e_law_moments (zs := zs) (sp := sp) tr (.tup (I (jn B)))
  rw [momB_T hB hn] at e3
  have ef : D__law_fronts [lfO zs sp, T (jn tr), T vs, N 0, N sp.length] = .ok (Dn.L (jn (eg sp tr vs))) [some (lfO zs sp), some (T (jn tr)), some (T vs), some (N 0), some (N sp.length)] := e_fronts h.lf h.t h.vl h.t8 (lo := 0) (hi := sp.length) (Nat.zero_le _) (Nat.le_refl _)
  have et := e_turned h
  have t8 := h.t8
  have t62 : (tr.length : Int) < 4611686018427387904 := by omega
  obtain ⟨w5, q⟩ := (q1_loop (b := .tup (I (jn B))) hc h.eg_le (some (lfO zs sp)) (some (T (jn tr))) (some (T vs)) tr.length 0 none (Nat.zero_add _)).1 (mis_same _)
  rw [← rgD_nat, Int.natCast_zero] at q
  have hl := (seen_iff h).mp hc
  have hBt : (B.take tr.length).reverse = B.reverse := by rw [List.take_of_length_le (by omega)]
  have q2 := (q2_loop (a := .tup (I (jn (eg sp tr vs)))) t8 hl hB (some (lfO zs sp)) (some (T vs)) tr.length 0 w5 (Nat.zero_add _)).2 i
  rw [hBt] at q2
  obtain ⟨w5', q2⟩ := q2 hm
  rw [← dn_range] at q2
  have l1 := lf1 zs sp
  have sl := spD_len sp
  have jl := jn_len tr
  unfold bQ1 at q
  unfold bQ2 at q2
  generalize jn B = BJ at *
  generalize jn tr = TJ at *
  generalize jn (eg sp tr vs) = EJ at *
  generalize jn (lg sp tr vs) = LJ at *
  simp [D__law_paper, m__law_paper, tyN, p2_0, p2_1, e1, e3, l1, sl, ef, et, jl, q, q2, t62]
theorem lw_good (h : Tv zs sp tr vs) (hc : (eg sp tr vs).length = tr.length) {x y : Nat} (en : En sp tr vs x y) : D__law_paper [lfO zs sp, T (jn tr), T vs, .d (.tup [.tup (I (jn (eg sp tr vs))), .tup (I (jn (lg sp tr vs).reverse))])] = .ok (.d (.tup [.int (stg sp y), .int (stg sp x)])) [some (lfO zs sp), some (T (jn tr)), some (T vs), some (.d (.tup [.tup (I (jn (eg sp tr vs))), .tup (I (jn (lg sp tr vs).reverse))]))] := by
  have hl := (seen_iff h).mp hc
  have hB : (lg sp tr vs).reverse.length = tr.length := by rw [List.length_reverse]; exact hl
  have hn : ∀ x ∈ (lg sp tr vs).reverse, x < sp.length := fun x m => lg_lt x (List.mem_reverse.mp m)
  have e1 := e_law_moments (zs := zs) (sp := sp) tr (.tup (I (jn (eg sp tr vs))))
  rw [momB_T hc eg_lt] at e1
  have e3 := e_law_moments (zs := zs) (sp := sp) tr (.tup (I (jn (lg sp tr vs).reverse)))
  rw [momB_T hB hn] at e3
  have ef : D__law_fronts [lfO zs sp, T (jn tr), T vs, N 0, N sp.length] = .ok (Dn.L (jn (eg sp tr vs))) [some (lfO zs sp), some (T (jn tr)), some (T vs), some (N 0), some (N sp.length)] := e_fronts h.lf h.t h.vl h.t8 (lo := 0) (hi := sp.length) (Nat.zero_le _) (Nat.le_refl _)
  have et := e_turned h
  have t8 := h.t8
  have t62 : (tr.length : Int) < 4611686018427387904 := by omega
  obtain ⟨w5, q⟩ := (q1_loop (b := .tup (I (jn (lg sp tr vs).reverse))) hc h.eg_le (some (lfO zs sp)) (some (T (jn tr))) (some (T vs)) tr.length 0 none (Nat.zero_add _)).1 (mis_same _)
  rw [← rgD_nat, Int.natCast_zero] at q
  have hBt : ((lg sp tr vs).reverse.take tr.length).reverse = lg sp tr vs := by rw [List.take_of_length_le (by omega), List.reverse_reverse]
  have q2 := (q2_loop (a := .tup (I (jn (eg sp tr vs)))) t8 hl hB (some (lfO zs sp)) (some (T vs)) tr.length 0 w5 (Nat.zero_add _)).1
  rw [hBt] at q2
  obtain ⟨w5', q2⟩ := q2 (mis_same _)
  rw [← dn_range] at q2
  have l1 := lf1 zs sp
  have sl := spD_len sp
  have jl := jn_len tr
  have g1 := spD_get en.xl
  have g2 := spD_get en.yl
  have ll := at_last (jn_last en.ex)
  have rf := rev_first en.ly
  unfold bQ1 at q
  unfold bQ2 at q2
  generalize jn (lg sp tr vs).reverse = BJ at *
  generalize jn tr = TJ at *
  generalize jn (eg sp tr vs) = EJ at *
  generalize jn (lg sp tr vs) = LJ at *
  generalize spD sp = SD at *
  simp [D__law_paper, m__law_paper, tyN, p2_0, p2_1, e1, e3, l1, sl, ef, et, jl, q, q2, t62, ll, rf, ↓g1, ↓g2]
end
end K24
end
section
set_option Elab.async false
set_option linter.all false
set_option maxRecDepth 100000
set_option maxHeartbeats 4000000
namespace K24
open PySem PySem.Spec L2 L2H Dn K24M
open PyProof.Rows hiding St
theorem same_int (n : Nat) (i : Int) : D__law_same (n + 1) [N i, N i] = .ok tt [some (N i), some (N i)] := by
  simp [D__law_same, m__law_same]
theorem same_non (n : Nat) : D__law_same (n + 1) [.d .non, .d .non] = .ok tt [some (.d .non), some (.d .non)] := by
  simp [D__law_same, m__law_same]
theorem same_str (n : Nat) {s : Str} (h : PyData.strOk s = true) : D__law_same (n + 1) [.d (.str s), .d (.str s)] = .ok tt [some (.d (.str s)), some (.d (.str s))] := by
  simp [D__law_same, m__law_same, oEq_str h]
theorem rep_bs (n : Nat) : (rgD 0 n).map (fun _ => D.bl true) = Bs (List.replicate n true) := by
  unfold Bs
  rw [rgD_zero, List.map_map]
  apply List.ext_getElem?
  intro i
  by_cases h : i < n <;> simp [h]
theorem same_tup (n : Nat) (ds : List D) (hl : ds.length ≤ 1000) (h : ∀ d ∈ ds, D__law_same (n + 1) [.d d, .d d] = .ok tt [some (.d d), some (.d d)]) : D__law_same (n + 2) [.d (.tup ds), .d (.tup ds)] = .ok tt [some (.d (.tup ds)), some (.d (.tup ds))] := by
  have e := compL_map (vs := [2]) (g := gN 2) (c := mYes) (m := mCall (D__law_same (n + 1)) [.ex (mOp oIx [.nm 0, .nm 2]), .ex (mOp oIx [.nm 1, .nm 2])]) (e := [some (.d (.tup ds)), some (.d (.tup ds)), none]) (fun _ => .bl true) (rgD 0 ds.length) (fun d hd => by
    rw [rgD_zero] at hd
    obtain ⟨p, hp, rfl⟩ := List.mem_map.mp hd
    have hp := List.mem_range.mp hp
    refine ⟨_, _, [some (.d (.tup ds)), some (.d (.tup ds)), some (N p)], rfl, rfl, ?_, rfl⟩
    have hg : ds[p]? = some ds[p] := List.getElem?_eq_getElem hp
    have hs := h ds[p] (List.getElem_mem hp)
    simp [hg, hs]) (by rw [rgD_zero]; simp; omega)
  rw [rep_bs] at e
  have c3 : (-4611686018427387904 : Int) ≤ (ds.length : Int) ∧ (ds.length : Int) < 4611686018427387904 := by omega
  have d : D__law_same (n + 2) = fnD [0, 1] 3 (m__law_same (D__law_same (n + 1))) := rfl
  rw [d]
  generalize D__law_same (n + 1) = f at *
  have hb : (List.replicate ds.length true).all id = true := by simp
  generalize List.replicate ds.length true = bs at *
  simp [m__law_same, c3, e, hb]
theorem same_ll (n : Nat) (ds : List D) (hl : ds.length ≤ 1000) (h : ∀ d ∈ ds, D__law_same (n + 1) [.d d, .d d] = .ok tt [some (.d d), some (.d d)]) : D__law_same (n + 2) [.l (ds.map O.d), .l (ds.map O.d)] = .ok tt [some (.l (ds.map O.d)), some (.l (ds.map O.d))] := by
  have e := compL_map (vs := [2]) (g := gN 2) (c := mYes) (m := mCall (D__law_same (n + 1)) [.ex (mOp oIx [.nm 0, .nm 2]), .ex (mOp oIx [.nm 1, .nm 2])]) (e := [some (.l (ds.map O.d)), some (.l (ds.map O.d)), none]) (fun _ => .bl true) (rgD 0 ds.length) (fun d hd => by
    rw [rgD_zero] at hd
    obtain ⟨p, hp, rfl⟩ := List.mem_map.mp hd
    have hp := List.mem_range.mp hp
    refine ⟨_, _, [some (.l (ds.map O.d)), some (.l (ds.map O.d)), some (N p)], rfl, rfl, ?_, rfl⟩
    have hg : ds[p]? = some ds[p] := List.getElem?_eq_getElem hp
    have hs := h ds[p] (List.getElem_mem hp)
    have ha := atO_l' (ds.map O.d) ds p (by simp)
    simp [hg, hs, ha]) (by rw [rgD_zero]; simp; omega)
  rw [rep_bs] at e
  have c3 : (-4611686018427387904 : Int) ≤ (ds.length : Int) ∧ (ds.length : Int) < 4611686018427387904 := by omega
  have d : D__law_same (n + 2) = fnD [0, 1] 3 (m__law_same (D__law_same (n + 1))) := rfl
  rw [d]
  generalize D__law_same (n + 1) = f at *
  have hb : (List.replicate ds.length true).all id = true := by simp
  have hm : (ds.map O.d).length = ds.length := List.length_map _
  generalize List.replicate ds.length true = bs at *
  generalize ds.map O.d = os at *
  simp [m__law_same, c3, hm, e, hb]
theorem same_ld (n : Nat) (ds : List D) (hl : ds.length ≤ 1000) (h : ∀ d ∈ ds, D__law_same (n + 1) [.d d, .d d] = .ok tt [some (.d d), some (.d d)]) : D__law_same (n + 2) [.l (ds.map O.d), .d (.lst ds)] = .ok tt [some (.l (ds.map O.d)), some (.d (.lst ds))] := by
  have e := compL_map (vs := [2]) (g := gN 2) (c := mYes) (m := mCall (D__law_same (n + 1)) [.ex (mOp oIx [.nm 0, .nm 2]), .ex (mOp oIx [.nm 1, .nm 2])]) (e := [some (.l (ds.map O.d)), some (.d (.lst ds)), none]) (fun _ => .bl true) (rgD 0 ds.length) (fun d hd => by
    rw [rgD_zero] at hd
    obtain ⟨p, hp, rfl⟩ := List.mem_map.mp hd
    have hp := List.mem_range.mp hp
    refine ⟨_, _, [some (.l (ds.map O.d)), some (.d (.lst ds)), some (N p)], rfl, rfl, ?_, rfl⟩
    have hg : ds[p]? = some ds[p] := List.getElem?_eq_getElem hp
    have hs := h ds[p] (List.getElem_mem hp)
    have ha := atO_l' (ds.map O.d) ds p (by simp)
    simp [hg, hs, ha]) (by rw [rgD_zero]; simp; omega)
  rw [rep_bs] at e
  have c3 : (-4611686018427387904 : Int) ≤ (ds.length : Int) ∧ (ds.length : Int) < 4611686018427387904 := by omega
  have d : D__law_same (n + 2) = fnD [0, 1] 3 (m__law_same (D__law_same (n + 1))) := rfl
  rw [d]
  generalize D__law_same (n + 1) = f at *
  have hb : (List.replicate ds.length true).all id = true := by simp
  have hm : (ds.map O.d).length = ds.length := List.length_map _
  generalize List.replicate ds.length true = bs at *
  generalize ds.map O.d = os at *
  simp [m__law_same, c3, hm, e, hb]
theorem same_row (n : Nat) (vs : List Int) (hl : vs.length ≤ 1000) : D__law_same (n + 2) [T vs, T vs] = .ok tt [some (T vs), some (T vs)] :=
  same_tup n (I vs) (by simpa using hl) fun d hd => by
    obtain ⟨i, _, rfl⟩ := I_mem hd
    exact same_int n i
theorem same_span (lo hi : Int) : D__law_same 4 [.d (spanD lo hi), .d (spanD lo hi)] = .ok tt [some (.d (spanD lo hi)), some (.d (spanD lo hi))] := by
  unfold spanD
  split
  · exact same_non 3
  · exact same_row 2 [lo, hi] (by simp)
theorem same_two (a b : List Int) (ha : a.length ≤ 1000) (hb : b.length ≤ 1000) : D__law_same 4 [.d (.tup [.tup (I a), .tup (I b)]), .d (.tup [.tup (I a), .tup (I b)])] = .ok tt [some (.d (.tup [.tup (I a), .tup (I b)])), some (.d (.tup [.tup (I a), .tup (I b)]))] :=
  same_tup 2 _ (by simp) fun d hd => by
    simp at hd
    rcases hd with rfl | rfl
    · exact same_row 1 a ha
    · exact same_row 1 b hb
theorem unO_it (k : Int) : ∀ d ∈ [D.str "unseen", D.int k], D__law_same 3 [.d d, .d d] = .ok tt [some (.d d), some (.d d)] := fun d hd => by
  simp at hd
  rcases hd with rfl | rfl
  · exact same_str 2 (by decide +kernel)
  · exact same_int 2 k
theorem thr_it {w u : Str} (hw : PyData.strOk w = true) (hu : PyData.strOk u = true) (k : Int) : ∀ d ∈ [D.str w, .str u, .int k], D__law_same 3 [.d d, .d d] = .ok tt [some (.d d), some (.d d)] := fun d hd => by
  simp at hd
  rcases hd with rfl | rfl | rfl
  · exact same_str 2 hw
  · exact same_str 2 hu
  · exact same_int 2 k
abbrev unO (k : Int) : O := .l [.d (.str "unseen"), N k]
abbrev unL (k : Int) : O := .d (.lst [.str "unseen", .int k])
theorem same_un (k : Int) : D__law_same 4 [unO k, unL k] = .ok tt [some (unO k), some (unL k)] := same_ld 2 [.str "unseen", .int k] (by simp) (unO_it k)
abbrev reO (w : Str) : O := .l [.d (.str "refused"), .d (.str w), N (-1)]
theorem same_re {w : Str} (h : PyData.strOk w = true) : D__law_same 4 [reO w, reO w] = .ok tt [some (reO w), some (reO w)] := same_ll 2 [.str "refused", .str w, .int (-1)] (by simp) (thr_it (by decide +kernel) h _)
theorem same_pa {w : Str} (h : PyData.strOk w = true) (k : Int) : D__law_same 4 [paO w k, paO w k] = .ok tt [some (paO w k), some (paO w k)] := same_ll 2 [.str "paper", .str w, .int k] (by simp) (thr_it (by decide +kernel) h _)
end K24
end
section
set_option Elab.async false
set_option linter.all false
set_option maxRecDepth 100000
set_option maxHeartbeats 4000000
namespace K24
open PySem PySem.Spec L2 L2H Dn K24M
open PyProof.Rows hiding St
theorem lk_w (a b : D) : List.lookup (Str.ofString "word") [(Str.ofString "at", a), (Str.ofString "word", b)] = some b := by rfl
theorem lk_a (a b : D) : List.lookup (Str.ofString "at") [(Str.ofString "at", a), (Str.ofString "word", b)] = some a := by rfl
theorem lk_p (a : D) : List.lookup (Str.ofString "place") [(Str.ofString "place", a)] = some a := by rfl
theorem ci1 : xCat_InvalidPaper (Str.ofString "InvalidPaper") = some true := by decide
theorem ci2 : xCat_InvalidPaper (Str.ofString "NotUsable") = some false := by decide
theorem ci3 : xCat_InvalidPaper (Str.ofString "Unseen") = some false := by decide
theorem cn2 : xCat_NotUsable (Str.ofString "NotUsable") = some true := by decide
theorem cn3 : xCat_NotUsable (Str.ofString "Unseen") = some false := by decide
theorem cu3 : xCat_Unseen (Str.ofString "Unseen") = some true := by decide
theorem kw1 : xKnown_word (Str.ofString "InvalidPaper") = true := by decide
theorem kw2 : xKnown_word (Str.ofString "NotUsable") = true := by decide
theorem ka1 : xKnown_at (Str.ofString "InvalidPaper") = true := by decide
theorem ka2 : xKnown_at (Str.ofString "NotUsable") = true := by decide
theorem kp3 : xKnown_place (Str.ofString "Unseen") = true := by decide
section
variable {zs : List Int} {sp : Sp} {t v : D}
theorem a0_ok {o : O} {th : D} (nm : Bool) (e : D_early_moments [lfO zs sp, .d t, .d v] = .ok o [some (lfO zs sp), some (.d t), some (.d v)]) : D__law_asked [N 0, lfO zs sp, .d t, .d v, .d th, .d (.bl nm)] = .ok o [some (N 0), some (lfO zs sp), some (.d t), some (.d v), some (.d th), some (.d (.bl nm))] := by
  cases nm <;> simp [D__law_asked, m__law_asked, e, lk_w, lk_a, lk_p, ci1, ci2, ci3, cn2, cn3, cu3, kw1, kw2, ka1, ka2, kp3] <;> rfl
theorem a0_re {w : Str} {th : D} (nm : Bool) (e : D_early_moments [lfO zs sp, .d t, .d v] = .exc (refX w) [some (lfO zs sp), some (.d t), some (.d v)]) : D__law_asked [N 0, lfO zs sp, .d t, .d v, .d th, .d (.bl nm)] = .ok (reO w) [some (N 0), some (lfO zs sp), some (.d t), some (.d v), some (.d th), some (.d (.bl nm))] := by
  cases nm <;> simp [D__law_asked, m__law_asked, e, refX, lk_w, lk_a, lk_p, ci1, ci2, ci3, cn2, cn3, cu3, kw1, kw2, ka1, ka2, kp3] <;> rfl
theorem a0_un {k : Nat} {th : D} (nm : Bool) (e : D_early_moments [lfO zs sp, .d t, .d v] = .exc (unsX k) [some (lfO zs sp), some (.d t), some (.d v)]) : D__law_asked [N 0, lfO zs sp, .d t, .d v, .d th, .d (.bl nm)] = .ok (unO k) [some (N 0), some (lfO zs sp), some (.d t), some (.d v), some (.d th), some (.d (.bl nm))] := by
  cases nm <;> simp [D__law_asked, m__law_asked, e, unsX, lk_w, lk_a, lk_p, ci1, ci2, ci3, cn2, cn3, cu3, kw1, kw2, ka1, ka2, kp3] <;> rfl
theorem a1_ok {o : O} {th : D} (nm : Bool) (e : D_late_moments [lfO zs sp, .d t, .d v] = .ok o [some (lfO zs sp), some (.d t), some (.d v)]) : D__law_asked [N 1, lfO zs sp, .d t, .d v, .d th, .d (.bl nm)] = .ok o [some (N 1), some (lfO zs sp), some (.d t), some (.d v), some (.d th), some (.d (.bl nm))] := by
  cases nm <;> simp [D__law_asked, m__law_asked, e, lk_w, lk_a, lk_p, ci1, ci2, ci3, cn2, cn3, cu3, kw1, kw2, ka1, ka2, kp3] <;> rfl
theorem a1_re {w : Str} {th : D} (nm : Bool) (e : D_late_moments [lfO zs sp, .d t, .d v] = .exc (refX w) [some (lfO zs sp), some (.d t), some (.d v)]) : D__law_asked [N 1, lfO zs sp, .d t, .d v, .d th, .d (.bl nm)] = .ok (reO w) [some (N 1), some (lfO zs sp), some (.d t), some (.d v), some (.d th), some (.d (.bl nm))] := by
  cases nm <;> simp [D__law_asked, m__law_asked, e, refX, lk_w, lk_a, lk_p, ci1, ci2, ci3, cn2, cn3, cu3, kw1, kw2, ka1, ka2, kp3] <;> rfl
theorem a1_un {k : Nat} {th : D} (nm : Bool) (e : D_late_moments [lfO zs sp, .d t, .d v] = .exc (unsX k) [some (lfO zs sp), some (.d t), some (.d v)]) : D__law_asked [N 1, lfO zs sp, .d t, .d v, .d th, .d (.bl nm)] = .ok (unO k) [some (N 1), some (lfO zs sp), some (.d t), some (.d v), some (.d th), some (.d (.bl nm))] := by
  cases nm <;> simp [D__law_asked, m__law_asked, e, unsX, lk_w, lk_a, lk_p, ci1, ci2, ci3, cn2, cn3, cu3, kw1, kw2, ka1, ka2, kp3] <;> rfl
theorem a2_ok {o : O} {th : D} (nm : Bool) (e : D_life_span [lfO zs sp, .d t, .d v] = .ok o [some (lfO zs sp), some (.d t), some (.d v)]) : D__law_asked [N 2, lfO zs sp, .d t, .d v, .d th, .d (.bl nm)] = .ok o [some (N 2), some (lfO zs sp), some (.d t), some (.d v), some (.d th), some (.d (.bl nm))] := by
  cases nm <;> simp [D__law_asked, m__law_asked, e, lk_w, lk_a, lk_p, ci1, ci2, ci3, cn2, cn3, cu3, kw1, kw2, ka1, ka2, kp3] <;> rfl
theorem a2_re {w : Str} {th : D} (nm : Bool) (e : D_life_span [lfO zs sp, .d t, .d v] = .exc (refX w) [some (lfO zs sp), some (.d t), some (.d v)]) : D__law_asked [N 2, lfO zs sp, .d t, .d v, .d th, .d (.bl nm)] = .ok (reO w) [some (N 2), some (lfO zs sp), some (.d t), some (.d v), some (.d th), some (.d (.bl nm))] := by
  cases nm <;> simp [D__law_asked, m__law_asked, e, refX, lk_w, lk_a, lk_p, ci1, ci2, ci3, cn2, cn3, cu3, kw1, kw2, ka1, ka2, kp3] <;> rfl
theorem a2_un {k : Nat} {th : D} (nm : Bool) (e : D_life_span [lfO zs sp, .d t, .d v] = .exc (unsX k) [some (lfO zs sp), some (.d t), some (.d v)]) : D__law_asked [N 2, lfO zs sp, .d t, .d v, .d th, .d (.bl nm)] = .ok (unO k) [some (N 2), some (lfO zs sp), some (.d t), some (.d v), some (.d th), some (.d (.bl nm))] := by
  cases nm <;> simp [D__law_asked, m__law_asked, e, unsX, lk_w, lk_a, lk_p, ci1, ci2, ci3, cn2, cn3, cu3, kw1, kw2, ka1, ka2, kp3] <;> rfl
theorem a3_ok {o : O} {th : D} (nm : Bool) (e : D_answer_paper [lfO zs sp, .d t, .d v] = .ok o [some (lfO zs sp), some (.d t), some (.d v)]) : D__law_asked [N 3, lfO zs sp, .d t, .d v, .d th, .d (.bl nm)] = .ok o [some (N 3), some (lfO zs sp), some (.d t), some (.d v), some (.d th), some (.d (.bl nm))] := by
  cases nm <;> simp [D__law_asked, m__law_asked, e, lk_w, lk_a, lk_p, ci1, ci2, ci3, cn2, cn3, cu3, kw1, kw2, ka1, ka2, kp3] <;> rfl
theorem a3_re {w : Str} {th : D} (nm : Bool) (e : D_answer_paper [lfO zs sp, .d t, .d v] = .exc (refX w) [some (lfO zs sp), some (.d t), some (.d v)]) : D__law_asked [N 3, lfO zs sp, .d t, .d v, .d th, .d (.bl nm)] = .ok (reO w) [some (N 3), some (lfO zs sp), some (.d t), some (.d v), some (.d th), some (.d (.bl nm))] := by
  cases nm <;> simp [D__law_asked, m__law_asked, e, refX, lk_w, lk_a, lk_p, ci1, ci2, ci3, cn2, cn3, cu3, kw1, kw2, ka1, ka2, kp3] <;> rfl
theorem a3_un {k : Nat} {th : D} (nm : Bool) (e : D_answer_paper [lfO zs sp, .d t, .d v] = .exc (unsX k) [some (lfO zs sp), some (.d t), some (.d v)]) : D__law_asked [N 3, lfO zs sp, .d t, .d v, .d th, .d (.bl nm)] = .ok (unO k) [some (N 3), some (lfO zs sp), some (.d t), some (.d v), some (.d th), some (.d (.bl nm))] := by
  cases nm <;> simp [D__law_asked, m__law_asked, e, unsX, lk_w, lk_a, lk_p, ci1, ci2, ci3, cn2, cn3, cu3, kw1, kw2, ka1, ka2, kp3] <;> rfl
theorem a4_ok {o : O} {th : D} (nm : Bool) (e : D_lets_answer [lfO zs sp, .d t, .d v, .d th] = .ok o [some (lfO zs sp), some (.d t), some (.d v), some (.d th)]) : D__law_asked [N 4, lfO zs sp, .d t, .d v, .d th, .d (.bl nm)] = .ok o [some (N 4), some (lfO zs sp), some (.d t), some (.d v), some (.d th), some (.d (.bl nm))] := by
  cases nm <;> simp [D__law_asked, m__law_asked, e, lk_w, lk_a, lk_p, ci1, ci2, ci3, cn2, cn3, cu3, kw1, kw2, ka1, ka2, kp3] <;> rfl
theorem a4_re {w : Str} {th : D} (nm : Bool) (e : D_lets_answer [lfO zs sp, .d t, .d v, .d th] = .exc (refX w) [some (lfO zs sp), some (.d t), some (.d v), some (.d th)]) : D__law_asked [N 4, lfO zs sp, .d t, .d v, .d th, .d (.bl nm)] = .ok (reO w) [some (N 4), some (lfO zs sp), some (.d t), some (.d v), some (.d th), some (.d (.bl nm))] := by
  cases nm <;> simp [D__law_asked, m__law_asked, e, refX, lk_w, lk_a, lk_p, ci1, ci2, ci3, cn2, cn3, cu3, kw1, kw2, ka1, ka2, kp3] <;> rfl
theorem a4_pa {w : Str} {k : Int} {th : D} (nm : Bool) (e : D_lets_answer [lfO zs sp, .d t, .d v, .d th] = .exc (invX w k) [some (lfO zs sp), some (.d t), some (.d v), some (.d th)]) : D__law_asked [N 4, lfO zs sp, .d t, .d v, .d th, .d (.bl nm)] = .ok (paO w k) [some (N 4), some (lfO zs sp), some (.d t), some (.d v), some (.d th), some (.d (.bl nm))] := by
  cases nm <;> simp [D__law_asked, m__law_asked, e, invX, lk_w, lk_a, lk_p, ci1, ci2, ci3, cn2, cn3, cu3, kw1, kw2, ka1, ka2, kp3] <;> rfl
end
end K24
end
section
set_option Elab.async false
set_option linter.all false
set_option maxRecDepth 100000
set_option maxHeartbeats 4000000
namespace K24
open PySem PySem.Spec L2 L2H Dn K24M
open PyProof.Rows hiding St
def FA (Q : D → Int → Prop) : List D → List Int → Prop
  | [], [] => True
  | x :: xs, r :: rs => Q x r ∧ FA Q xs rs
  | _, _ => False
theorem FA.len {Q : D → Int → Prop} : ∀ {xs : List D} {rs : List Int}, FA Q xs rs → rs.length = xs.length
  | [], [], _ => rfl
  | _ :: _, _ :: _, h => congrArg (· + 1) h.2.len
theorem FA.all {Q : D → Int → Prop} {P : Int → Prop} (hq : ∀ x r, Q x r → P r) : ∀ {xs : List D} {rs : List Int}, FA Q xs rs → ∀ r ∈ rs, P r
  | [], [], _, r, h => nomatch h
  | x :: _, r0 :: _, h, r, m => by
    rcases List.mem_cons.mp m with rfl | m
    · exact hq _ _ h.1
    · exact h.2.all hq r m
theorem FA.row : ∀ {zs rs : List Int}, FA (fun d r => ∃ z, d = .int z ∧ 0 ≤ r ∧ r < z) (I zs) rs → RowOk zs rs
  | [], [], _ => trivial
  | z :: zs, r :: rs, h => by
    obtain ⟨⟨z', e, h1, h2⟩, h3⟩ := h
    cases e
    exact ⟨h1, h2, FA.row h3⟩
theorem comp_draws {vw : List Nat} {g : MG} {m : ME} (E : List Int → Dn.Env) (Q : D → Int → Prop) : ∀ (xs : List D) (ns : List Int) (acc : List O), ns ≠ [] → acc.length + xs.length ≤ 16000000 →
    (∀ x ∈ xs, ∀ ns, ns ≠ [] → ∃ r ns', ns' ≠ [] ∧ Q x r ∧ ∃ e1 e3, g (E ns) x = some e1 ∧ m e1 = .ok (N r) e3 ∧ clr e3 vw = E ns') →
    ∃ rs ns', ns' ≠ [] ∧ FA Q xs rs ∧ compL vw g mYes m xs (E ns) acc = .ok (acc ++ (I rs).map O.d) (E ns')
  | [], ns, acc, hn, _, _ => ⟨[], ns, hn, trivial, by simp⟩
  | x :: xs, ns, acc, hn, hl, h => by
    rw [List.length_cons] at hl
    obtain ⟨r, ns1, hn1, q1, e1, e3, h1, h2, h3⟩ := h x List.mem_cons_self ns hn
    obtain ⟨rs, ns', hn', q2, e⟩ := comp_draws E Q xs ns1 (acc ++ [N r]) hn1 (by rw [List.length_append, List.length_singleton]; omega) (fun y hy => h y (List.mem_cons_of_mem _ hy))
    refine ⟨r :: rs, ns', hn', ⟨q1, q2⟩, ?_⟩
    rw [compL_cons]
    simp only [h1, compG_s, mYes_e, compC_t, h2, compI_ok]
    rw [if_pos (by omega), h3, e]
    simp
theorem set_L (l : List Int) (p : Nat) (i : Int) : ((I l).map O.d).set p (N i) = (I (l.set p i)).map O.d := by
  unfold I
  rw [List.map_map, List.map_map, List.map_set]
  rfl
theorem RowOk_at : ∀ {xs vs : List Int} {p : Nat} {x : Int}, RowOk xs vs → xs[p]? = some x → ∃ v, vs[p]? = some v ∧ 0 ≤ v ∧ v < x
  | [], [], _, _, _, h => nomatch h
  | x :: _, v :: _, 0, _, g, h => by
    injection h with h
    subst h
    exact ⟨v, rfl, g.1, g.2.1⟩
  | _ :: _, _ :: _, p + 1, _, g, h => RowOk_at (p := p) g.2.2 h
theorem RowOk_set : ∀ {xs vs : List Int} {p : Nat} {x r : Int}, RowOk xs vs → xs[p]? = some x → 0 ≤ r → r < x → RowOk xs (vs.set p r)
  | [], [], _, _, _, g, h, _, _ => g
  | x :: _, v :: _, 0, _, r, g, h, h0, h1 => by
    injection h with h
    subst h
    exact ⟨h0, h1, g.2.2⟩
  | _ :: _, _ :: _, p + 1, _, _, g, h, h0, h1 => ⟨g.1, g.2.1, RowOk_set g.2.2 h h0 h1⟩
theorem stg_app {sp : Sp} {x : List Int × Int} {m : Nat} (h : m < sp.length) : stg (sp ++ [x]) m = stg sp m := by
  unfold stg
  rw [List.getD_eq_getElem?_getD, List.getD_eq_getElem?_getD, List.getElem?_append_left h]
theorem stg_end {sp : Sp} {x : List Int × Int} : stg (sp ++ [x]) sp.length = x.2 := by
  unfold stg
  rw [List.getD_eq_getElem?_getD, List.getElem?_append_right (Nat.le_refl _), Nat.sub_self]
  rfl
/-- a life under way -/
structure Go (zs : List Int) (sp : Sp) (s : Int) : Prop where
  ok : ∀ x ∈ sp, RowOk zs x.1
  sg : Sg sp
  n1 : 1 ≤ sp.length
  last : stg sp (sp.length - 1) = s
theorem Go.one {zs r : List Int} (h : RowOk zs r) : Go zs [(r, 0)] 0 :=
  ⟨fun x m => by rw [List.mem_singleton] at m; subst m; exact h, ⟨rfl, fun m h => by simp at h⟩, Nat.le_refl _, rfl⟩
theorem Go.snoc {zs r : List Int} {sp : Sp} {s s' : Int} (g : Go zs sp s) (h : RowOk zs r) (hs : s' = s ∨ s' = s + 1) : Go zs (sp ++ [(r, s')]) s' := by
  have n1 := g.n1
  have la := g.last
  refine ⟨fun x m => ?_, ⟨?_, fun m hm => ?_⟩, by simp, ?_⟩
  · rcases List.mem_append.mp m with m | m
    · exact g.ok x m
    · rw [List.mem_singleton] at m
      subst m
      exact h
  · rw [stg_app (by omega)]
    exact g.sg.st0
  · rw [List.length_append, List.length_singleton] at hm
    rw [stg_app (show m < sp.length by omega)]
    by_cases q : m + 1 < sp.length
    · rw [stg_app q]
      exact g.sg.stp m q
    · obtain rfl : m = sp.length - 1 := by omega
      rw [show sp.length - 1 + 1 = sp.length by omega, stg_end, la]
      exact hs
  · rw [List.length_append, List.length_singleton, Nat.add_sub_cancel, stg_end]
theorem spD_snoc (sp : Sp) (r : List Int) (s : Int) : spD (sp ++ [(r, s)]) = spD sp ++ [.tup [.tup (I r), .int s]] := by simp [spD]
/-! a drawn life -/
theorem sizes_comp {ns : List Int} (hn : ns ≠ []) (k : Nat) (hk : k ≤ 1000) : ∃ zs ns', ns' ≠ [] ∧ zs.length = k ∧ (∀ z ∈ zs, 2 ≤ z ∧ z ≤ 4) ∧ compL [5] (gN 5) mYes (mOp oPlus [.ex (mC (.int 2)), .ex (mCall D__law_take [.nm 0, .ex (mC (.int 3))])]) (rgD 0 k) [some (Po ns), none, none, none, none, none, none, none, none] [] = .ok ((I zs).map O.d) [some (Po ns'), none, none, none, none, none, none, none, none] := by
  obtain ⟨rs, ns', h1, h2, h3⟩ := comp_draws (vw := [5]) (g := gN 5) (m := mOp oPlus [.ex (mC (.int 2)), .ex (mCall D__law_take [.nm 0, .ex (mC (.int 3))])]) (fun ns => [some (Po ns), none, none, none, none, none, none, none, none]) (fun _ r => 2 ≤ r ∧ r ≤ 4) (rgD 0 k) ns [] hn (by rw [rgD_zero]; simp; omega) (fun x _ ns hn => by
    obtain ⟨r, ns1, n1, r0, r1, e⟩ := e_take hn (many := 3) (by decide)
    refine ⟨2 + r, ns1, n1, ⟨by omega, by omega⟩, [some (Po ns), none, none, none, none, some (.d x), none, none, none], [some (Po ns1), none, none, none, none, some (.d x), none, none, none], rfl, ?_, rfl⟩
    simp [e])
  exact ⟨rs, ns', h1, by rw [h2.len, rgD_zero]; simp, h2.all (P := fun r => 2 ≤ r ∧ r ≤ 4) (fun _ _ q => q), h3⟩
theorem row_comp {zs : List Int} (hz : ∀ z ∈ zs, 2 ≤ z ∧ z ≤ 4) (hl : zs.length ≤ 1000) {ns : List Int} (hn : ns ≠ []) (o1 o2 o3 o4 o5 o6 o7 : Option O) : ∃ r ns', ns' ≠ [] ∧ RowOk zs r ∧ compL [8] (gN 8) mYes (mCall D__law_take [.nm 0, .nm 8]) (I zs) [some (Po ns), o1, o2, o3, o4, o5, o6, o7, none] [] = .ok ((I r).map O.d) [some (Po ns'), o1, o2, o3, o4, o5, o6, o7, none] := by
  obtain ⟨rs, ns', h1, h2, h3⟩ := comp_draws (vw := [8]) (g := gN 8) (m := mCall D__law_take [.nm 0, .nm 8]) (fun ns => [some (Po ns), o1, o2, o3, o4, o5, o6, o7, none]) (fun d r => ∃ z, d = .int z ∧ 0 ≤ r ∧ r < z) (I zs) ns [] hn (by simp; omega) (fun x hx ns hn => by
    obtain ⟨z, mz, rfl⟩ := I_mem hx
    have := hz z mz
    obtain ⟨r, ns1, n1, r0, r1, e⟩ := e_take hn (many := z) (by omega)
    refine ⟨r, ns1, n1, ⟨z, rfl, r0, r1⟩, [some (Po ns), o1, o2, o3, o4, o5, o6, o7, some (N z)], [some (Po ns1), o1, o2, o3, o4, o5, o6, o7, some (N z)], rfl, ?_, rfl⟩
    simp [e])
  exact ⟨rs, ns', h1, h2.row, h3⟩
end K24
end
section
set_option Elab.async false
set_option linter.all false
set_option maxRecDepth 100000
set_option maxHeartbeats 4000000
namespace K24
open PySem PySem.Spec L2 L2H Dn K24M
open PyProof.Rows hiding St
abbrev ZL (zs : List Int) : O := .d (.lst (I zs))
def bDw : MS := mIf (mB (mOp (oEq false) [.nm 6, .ex (mC (.int 0))])) (mSet 2 (mComp (mIt itS (mN 1)) [8] (gN 8) (mYes) (mCall D__law_take [.nm 0, .nm 8]))) (mIf (mB (mOp oGt [.nm 6, .ex (mC (.int 1))])) (mSeq (mSet 7 (mCall D__law_take [.nm 0, .ex (mOp oLen [.nm 1])]))
  (mPut 2 (mOp oMod [.ex (mOp oInt [.ex (mOp oPlus [.ex (mOp oPlus [.ex (mOp oIx [.nm 2, .nm 7]), .ex (mC (.int 1))]), .ex (mCall D__law_take [.nm 0, .ex (mOp oSub [.ex (mOp oIx [.nm 1, .nm 7]), .ex (mC (.int 1))])])])]), .ex (mOp oIx [.nm 1, .nm 7])]) (.nm 7))) (mPass))
theorem dw {zs : List Int} (hz : ∀ z ∈ zs, 2 ≤ z ∧ z ≤ 4) (h1 : 1 ≤ zs.length) (h3 : zs.length ≤ 3) {ns row : List Int} (hn : ns ≠ []) (hr : RowOk zs row) (o3 o4 o5 o7 : Option O) (k : Int) : ∃ ns' row' w7, ns' ≠ [] ∧ RowOk zs row' ∧ bDw [some (Po ns), some (ZL zs), some (Dn.L row), o3, o4, o5, some (N k), o7, none] = .nx [some (Po ns'), some (ZL zs), some (Dn.L row'), o3, o4, o5, some (N k), w7, none] := by
  by_cases q : k = 0
  · subst q
    obtain ⟨r, ns', n', hr', e⟩ := row_comp hz (by omega) hn (some (ZL zs)) (some (Dn.L row)) o3 o4 o5 (some (N 0)) o7
    exact ⟨ns', r, o7, n', hr', by simp [bDw, e]⟩
  · by_cases q2 : 1 < k
    · obtain ⟨d, ns1, n1, d0, d1, e1⟩ := e_take hn (many := (zs.length : Int)) (by omega)
      obtain ⟨p, rfl⟩ := Int.eq_ofNat_of_zero_le d0
      obtain ⟨z, hzp⟩ : ∃ z, zs[p]? = some z := ⟨_, List.getElem?_eq_getElem (by omega)⟩
      have hzz := hz z (List.mem_of_getElem? hzp)
      obtain ⟨v, hv, v0, v1⟩ := RowOk_at hr hzp
      obtain ⟨t, ns2, n2, t0, t1, e2⟩ := e_take n1 (many := z - 1) (by omega)
      have hl := hr.len
      have ix : ixN row.length (p : Int) = some p := by
        have := ixN_of (n := row.length) (i := (p : Int)) (by omega) (by omega)
        simpa using this
      refine ⟨ns2, row.set p ((v + 1 + t) % z), some (N p), n2, RowOk_set hr hzp (Int.emod_nonneg _ (by omega)) (Int.emod_lt_of_pos _ (by omega)), ?_⟩
      have z0 : 0 < z := by omega
      simp [bDw, q, q2, e1, hzp, hv, e2, ix, set_L, z0]
    · exact ⟨ns, row, o7, hn, hr, by simp [bDw, q, q2]⟩
def bDl : MS := mSeq (mSet 6 (mCall D__law_take [.nm 0, .ex (mC (.int 8))]))
  (mSeq bDw
  (mSeq (mSet 3 (mOp oPlus [.nm 3, .ex (mOp oInt [.ex (mOp oGt [.ex (mCall D__law_take [.nm 0, .ex (mC (.int 4))]), .ex (mC (.int 0))])])]))
  (mExpr (mMut 4 fApp [.ex (mAll oTup [.ex (mOp (op1 toTup) [.nm 2]), .ex (mN 3)])]))))
abbrev spL (sp : Sp) : O := .l ((spD sp).map O.d)
theorem dl_loop {zs : List Int} (hz : ∀ z ∈ zs, 2 ≤ z ∧ z ≤ 4) (h1 : 1 ≤ zs.length) (h3 : zs.length ≤ 3) : ∀ (its : List D) (ns row : List Int) (sp : Sp) (s : Int) (w5 w6 w7 : Option O), ns ≠ [] → RowOk zs row → Go zs sp s → sp.length + its.length ≤ 61 →
    ∃ ns' row' sp' s' w5' w6' w7', ns' ≠ [] ∧ Go zs sp' s' ∧ sp'.length ≤ 61 ∧ forL (gN 5) bDl its [some (Po ns), some (ZL zs), some (Dn.L row), some (N s), some (spL sp), w5, w6, w7, none] = .nx [some (Po ns'), some (ZL zs), some (Dn.L row'), some (N s'), some (spL sp'), w5', w6', w7', none]
  | [], ns, row, sp, s, w5, w6, w7, hn, hr, hg, hl => ⟨ns, row, sp, s, w5, w6, w7, hn, hg, by simpa using hl, rfl⟩
  | d :: its, ns, row, sp, s, w5, w6, w7, hn, hr, hg, hl => by
    rw [List.length_cons] at hl
    obtain ⟨k, ns1, n1, k0, k1, e1⟩ := e_take hn (many := 8) (by decide)
    obtain ⟨ns2, row2, w7', n2, hr2, e2⟩ := dw hz h1 h3 n1 hr (some (N s)) (some (spL sp)) (some (.d d)) w7 k
    obtain ⟨t, ns3, n3, t0, t1, e3⟩ := e_take n2 (many := 4) (by decide)
    have g2 : sp.length < 16000000 := by omega
    have rl := hr2.len
    have sl := spD_len sp
    obtain ⟨s', hs', es⟩ : ∃ s', (s' = s ∨ s' = s + 1) ∧ s' = s + (if 0 < t then 1 else 0) := by
      refine ⟨_, ?_, rfl⟩
      split
      · exact .inr rfl
      · exact .inl (Int.add_zero s)
    have sd := spD_snoc sp row2 s'
    obtain ⟨ns', row', sp', s'', w5', w6', w7'', n', hg', hl', e⟩ := dl_loop hz h1 h3 its ns3 row2 (sp ++ [(row2, s')]) s' (some (.d d)) (some (N k)) w7' n3 hr2 (hg.snoc hr2 hs') (by rw [List.length_append, List.length_singleton]; omega)
    refine ⟨ns', row', sp', s'', w5', w6', w7'', n', hg', hl', ?_⟩
    rw [← e]
    unfold spL at e2 ⊢
    rw [sd]
    generalize spD sp = SD at *
    by_cases q : 0 < t
    · rw [if_pos q] at es
      simp [forL_cons, bDl, e1, e2, e3, q, sl, g2, es]
    · rw [if_neg q] at es
      simp [forL_cons, bDl, e1, e2, e3, q, sl, g2, es]
theorem e_drawn {ns : List Int} (hn : ns ≠ []) : ∃ zs sp ns', ns' ≠ [] ∧ Lf zs sp ∧ Sg sp ∧ D__law_drawn_life [Po ns] = .ok (lfO zs sp) [some (Po ns')] := by
  obtain ⟨m, ns1, n1, m0, m1, e1⟩ := e_take hn (many := 3) (by decide)
  obtain ⟨k, hk⟩ := Int.eq_ofNat_of_zero_le (show 0 ≤ 1 + m by omega)
  obtain ⟨zs, ns2, n2, hl, hz, e2⟩ := sizes_comp n1 k (by omega)
  obtain ⟨row, ns3, n3, hr, e3⟩ := row_comp hz (by omega) n2 (some (ZL zs)) none none none none none none
  obtain ⟨c, ns4, n4, c0, c1, e4⟩ := e_take n3 (many := 14) (by decide)
  obtain ⟨c', rfl⟩ := Int.eq_ofNat_of_zero_le c0
  obtain ⟨ns', row', sp', s'', w5', w6', w7'', n', hg', hl', e⟩ := dl_loop hz (by omega) (by omega) (rgD 0 c') ns4 row [(row, 0)] 0 none none none n4 hr (Go.one hr) (by rw [rgD_zero]; simp; omega)
  refine ⟨zs, sp', ns', n', ⟨by omega, by omega, hz, hg'.n1, hl', hg'.ok⟩, hg'.sg, ?_⟩
  have c3 : (-4611686018427387904 : Int) ≤ 1 + m ∧ 1 + m < 4611686018427387904 := by omega
  have c4 : (c' : Int) < 4611686018427387904 := by omega
  have kt : (1 + m).toNat = k := by omega
  have s1 : spL [(row, 0)] = .l [.d (.tup [.tup (I row), .int 0])] := rfl
  rw [s1] at e
  unfold bDl bDw at e
  simp [D__law_drawn_life, m__law_drawn_life, e1, c3, kt, e2, e3, e4, c4, e]
end K24
end
section
set_option Elab.async false
set_option linter.all false
set_option maxRecDepth 100000
set_option maxHeartbeats 4000000
namespace K24
open PySem PySem.Spec L2 L2H Dn K24M
open PyProof.Rows hiding St
theorem order_comp (z f : Int) (hz : 2 ≤ z ∧ z ≤ 4) (o0 o3 : Option O) : ∃ r : List Int, r.length = z.toNat ∧ (∀ x ∈ r, 0 ≤ x ∧ x < z) ∧ compL [4] (gN 4) mYes (mOp oMod [.ex (mOp oInt [.ex (mOp oPlus [.nm 2, .nm 4])]), .nm 1]) (rgD 0 z.toNat) [o0, some (N z), some (N f), o3, none] [] = .ok ((I r).map O.d) [o0, some (N z), some (N f), o3, none] := by
  obtain ⟨rs, ns', h1, h2, h3⟩ := comp_draws (vw := [4]) (g := gN 4) (m := mOp oMod [.ex (mOp oInt [.ex (mOp oPlus [.nm 2, .nm 4])]), .nm 1]) (fun _ => [o0, some (N z), some (N f), o3, none]) (fun _ r => 0 ≤ r ∧ r < z) (rgD 0 z.toNat) [0] [] (by simp) (by rw [rgD_zero]; simp; omega) (fun x hx ns hn => by
    rw [rgD_zero] at hx
    obtain ⟨p, hp, rfl⟩ := List.mem_map.mp hx
    refine ⟨(f + p) % z, [0], by simp, ⟨Int.emod_nonneg _ (by omega), Int.emod_lt_of_pos _ (by omega)⟩, [o0, some (N z), some (N f), o3, some (N p)], [o0, some (N z), some (N f), o3, some (N p)], rfl, ?_, rfl⟩
    have z0 : 0 < z := by omega
    simp [z0])
  exact ⟨rs, by rw [h2.len, rgD_zero]; simp, h2.all (P := fun r => 0 ≤ r ∧ r < z) (fun _ _ q => q), h3⟩
theorem e_order {ns : List Int} (hn : ns ≠ []) {z : Int} (hz : 2 ≤ z ∧ z ≤ 4) : ∃ r ns', ns' ≠ [] ∧ r.length = z.toNat ∧ (∀ x ∈ r, 0 ≤ x ∧ x < z) ∧ D__law_order [Po ns, N z] = .ok (Dn.L r) [some (Po ns'), some (N z)] := by
  obtain ⟨f, ns1, n1, f0, f1, e1⟩ := e_take hn (many := z) (by omega)
  obtain ⟨r, r1, r2, e2⟩ := order_comp z f hz (some (Po ns1)) none
  obtain ⟨t, ns2, n2, t0, t1, e3⟩ := e_take n1 (many := 2) (by decide)
  have c : (-4611686018427387904 : Int) ≤ z ∧ z < 4611686018427387904 := by omega
  by_cases q : t = 0
  · subst q
    refine ⟨r.reverse, ns2, n2, by rw [List.length_reverse, r1], fun x m => r2 x (List.mem_reverse.mp m), ?_⟩
    simp [D__law_order, m__law_order, e1, c, e2, e3]
    rw [← I_reverse, List.map_reverse]
  · refine ⟨r, ns2, n2, r1, r2, ?_⟩
    simp [D__law_order, m__law_order, e1, c, e2, e3, q]
end K24
end
section
set_option Elab.async false
set_option linter.all false
set_option maxRecDepth 100000
set_option maxHeartbeats 4000000
namespace K24
open PySem PySem.Spec L2 L2H Dn K24M
open PyProof.Rows hiding St
abbrev Rw := List (List Int)
def rwL (rs : Rw) : List D := rs.map fun r => .tup (I r)
theorem rwL_len (rs : Rw) : (rwL rs).length = rs.length := List.length_map _
theorem rwL_snoc (rs : Rw) (r : List Int) : rwL (rs ++ [r]) = rwL rs ++ [.tup (I r)] := by simp [rwL]
theorem rwL_get {rs : Rw} {k : Nat} {r : List Int} (h : rs[k]? = some r) : (rwL rs)[k]? = some (.tup (I r)) := by
  unfold rwL
  rw [List.getElem?_map, h]
  rfl
def bBu : MS := mSeq (mSet 6 (mCall D__law_take [.nm 0, .ex (mC (.int 2))]))
  (mSeq (mIf (mB (mOp (oEq false) [.ex (mOp oIx [.nm 3, .nm 6]), .ex (mOp oSub [.ex (mOp oIx [.nm 1, .nm 6]), .ex (mC (.int 1))])])) (mSet 6 (mOp oSub [.ex (mC (.int 1)), .nm 6])) (mPass))
  (mSeq (mPut 3 (mOp oPlus [.ex (mOp oIx [.nm 3, .nm 6]), .ex (mC (.int 1))]) (.nm 6))
  (mExpr (mMut 4 fApp [.ex (mAll oTup [.ex (mOp oIx [.ex (mOp oIx [.nm 2, .ex (mC (.int 0))]), .ex (mOp oIx [.nm 3, .ex (mC (.int 0))])]), .ex (mOp oIx [.ex (mOp oIx [.nm 2, .ex (mC (.int 1))]), .ex (mOp oIx [.nm 3, .ex (mC (.int 1))])])])]))))
abbrev l2 (a b : Int) : O := .l [N a, N b]
abbrev or2 (a b : List Int) : O := .l [.d (.lst (I a)), .d (.lst (I b))]
theorem l2_0 (a b : Int) : atO (l2 a b) (0 : Int) = some (.int a) := rfl
theorem l2_1 (a b : Int) : atO (l2 a b) (1 : Int) = some (.int b) := rfl
theorem or2_0 (a b : List Int) : atO (or2 a b) (0 : Int) = some (.lst (I a)) := rfl
theorem or2_1 (a b : List Int) : atO (or2 a b) (1 : Int) = some (.lst (I b)) := rfl
theorem ix2_0 : ixN 2 (0 : Int) = some 0 := rfl
theorem ix2_1 : ixN 2 (1 : Int) = some 1 := rfl
/-- the rows under way -/
structure Bu (z0 z1 : Int) (p q : Nat) (rs : Rw) : Prop where
  ok : ∀ r ∈ rs, RowOk [z0, z1] r
  len : rs.length = 1 + p + q
  hp : (p : Int) < z0
  hq : (q : Int) < z1
theorem bu_loop {z0 z1 : Int} {a b : List Int} (h0 : 2 ≤ z0 ∧ z0 ≤ 4) (h1 : 2 ≤ z1 ∧ z1 ≤ 4) (ha : a.length = z0.toNat) (hb : b.length = z1.toNat) (va : ∀ x ∈ a, 0 ≤ x ∧ x < z0) (vb : ∀ x ∈ b, 0 ≤ x ∧ x < z1) (os : List (Option O)) : ∀ (its : List D) (ns : List Int) (p q : Nat) (rs : Rw) (w5 w6 : Option O), ns ≠ [] → Bu z0 z1 p q rs → (p : Int) + q + its.length = z0 + z1 - 2 →
    ∃ ns' p' q' rs' w5' w6', ns' ≠ [] ∧ Bu z0 z1 p' q' rs' ∧ forL (gN 5) bBu its ([some (Po ns), some (l2 z0 z1), some (or2 a b), some (l2 p q), some (.l ((rwL rs).map O.d)), w5, w6] ++ os) = .nx ([some (Po ns'), some (l2 z0 z1), some (or2 a b), some (l2 p' q'), some (.l ((rwL rs').map O.d)), w5', w6'] ++ os)
  | [], ns, p, q, rs, w5, w6, hn, hB, hs => ⟨ns, p, q, rs, w5, w6, hn, hB, rfl⟩
  | d :: its, ns, p, q, rs, w5, w6, hn, hB, hs => by
    rw [List.length_cons] at hs
    obtain ⟨t, ns1, n1, t0, t1, e1⟩ := e_take hn (many := 2) (by decide)
    have bl := hB.len
    have hp := hB.hp
    have hq := hB.hq
    have g2 : rs.length < 16000000 := by omega
    have rl := rwL_len rs
    obtain ⟨x, hx⟩ : ∃ x, a[p]? = some x := ⟨_, List.getElem?_eq_getElem (by omega)⟩
    obtain ⟨y, hy⟩ : ∃ y, b[q]? = some y := ⟨_, List.getElem?_eq_getElem (by omega)⟩
    have vx := va x (List.mem_of_getElem? hx)
    have vy := vb y (List.mem_of_getElem? hy)
    by_cases c : (t = 0 ∧ ¬ (p : Int) = z0 - 1) ∨ (t = 1 ∧ (q : Int) = z1 - 1)
    · have hpp : (p : Int) + 1 < z0 := by
        rcases c with ⟨-, c⟩ | ⟨-, c⟩ <;> omega
      obtain ⟨x', hx'⟩ : ∃ x, a[p + 1]? = some x := ⟨_, List.getElem?_eq_getElem (by omega)⟩
      have vx' := va x' (List.mem_of_getElem? hx')
      have rs1 := rwL_snoc rs [x', y]
      obtain ⟨ns', p', q', rs', w5', w6', n', hB', e⟩ := bu_loop h0 h1 ha hb va vb os its ns1 (p + 1) q (rs ++ [[x', y]]) (some (.d d)) (some (N 0)) n1 ⟨fun r m => by
        rcases List.mem_append.mp m with m | m
        · exact hB.ok r m
        · rw [List.mem_singleton] at m
          subst m
          exact ⟨vx'.1, vx'.2, vy.1, vy.2, trivial⟩, by rw [List.length_append, List.length_singleton]; omega, by omega, hq⟩ (by omega)
      refine ⟨ns', p', q', rs', w5', w6', n', hB', ?_⟩
      rw [← e, rs1]
      generalize rwL rs = RS at *
      have hx2 : atI (I a) ((p : Int) + 1) = some (.int x') := by
        have := Dn.atI_nat (I a) (p + 1)
        rw [show (((p + 1 : Nat) : Int)) = (p : Int) + 1 by omega] at this
        rw [this]
        unfold I
        rw [List.getElem?_map, hx']
        rfl
      rcases c with ⟨rfl, c⟩ | ⟨rfl, c⟩
      · simp [forL_cons, bBu, e1, l2_0, l2_1, c, ix2_0, ix2_1, or2_0, or2_1, hx2, hy, rl, g2]
      · have hyz : atI (I b) (z1 - 1) = some (.int y) := by
          rw [← c, Dn.atI_nat]
          unfold I
          rw [List.getElem?_map, hy]
          rfl
        simp [forL_cons, bBu, e1, l2_0, l2_1, c, ix2_0, ix2_1, or2_0, or2_1, hx2, hyz, rl, g2]
    · have hqq : (q : Int) + 1 < z1 := by
        by_cases t2 : t = 0
        · have : (p : Int) = z0 - 1 := by
            by_cases z : (p : Int) = z0 - 1
            · exact z
            · exact absurd (.inl ⟨t2, z⟩) c
          omega
        · have : ¬ (q : Int) = z1 - 1 := fun z => c (.inr ⟨by omega, z⟩)
          omega
      obtain ⟨y', hy'⟩ : ∃ x, b[q + 1]? = some x := ⟨_, List.getElem?_eq_getElem (by omega)⟩
      have vy' := vb y' (List.mem_of_getElem? hy')
      have rs1 := rwL_snoc rs [x, y']
      obtain ⟨ns', p', q', rs', w5', w6', n', hB', e⟩ := bu_loop h0 h1 ha hb va vb os its ns1 p (q + 1) (rs ++ [[x, y']]) (some (.d d)) (some (N 1)) n1 ⟨fun r m => by
        rcases List.mem_append.mp m with m | m
        · exact hB.ok r m
        · rw [List.mem_singleton] at m
          subst m
          exact ⟨vx.1, vx.2, vy'.1, vy'.2, trivial⟩, by rw [List.length_append, List.length_singleton]; omega, hp, by omega⟩ (by omega)
      refine ⟨ns', p', q', rs', w5', w6', n', hB', ?_⟩
      rw [← e, rs1]
      generalize rwL rs = RS at *
      have hy2 : atI (I b) ((q : Int) + 1) = some (.int y') := by
        have := Dn.atI_nat (I b) (q + 1)
        rw [show (((q + 1 : Nat) : Int)) = (q : Int) + 1 by omega] at this
        rw [this]
        unfold I
        rw [List.getElem?_map, hy']
        rfl
      by_cases t2 : t = 0
      · subst t2
        have c2 : (p : Int) = z0 - 1 := by
          by_cases z : (p : Int) = z0 - 1
          · exact z
          · exact absurd (.inl ⟨rfl, z⟩) c
        have hxz : atI (I a) (z0 - 1) = some (.int x) := by
          rw [← c2, Dn.atI_nat]
          unfold I
          rw [List.getElem?_map, hx]
          rfl
        simp [forL_cons, bBu, e1, l2_0, l2_1, c2, hxz, ix2_0, ix2_1, or2_0, or2_1, hy2, hx, rl, g2]
      · obtain rfl : t = 1 := by omega
        have c2 : ¬ (q : Int) = z1 - 1 := fun z => c (.inr ⟨rfl, z⟩)
        simp [forL_cons, bBu, e1, l2_0, l2_1, c2, ix2_0, ix2_1, or2_0, or2_1, hy2, hx, rl, g2]
end K24
end
section
set_option Elab.async false
set_option linter.all false
set_option maxRecDepth 100000
set_option maxHeartbeats 4000000
namespace K24
open PySem PySem.Spec L2 L2H Dn K24M
open PyProof.Rows hiding St
def IsR (R : O) (rs : Rw) : Prop := R = .l ((rwL rs).map O.d) ∨ R = .d (.lst (rwL rs))
def bMi : MS := mExpr (mMut 9 fApp [.ex (mAll oTup [.ex (mN 10), .ex (mOp oMod [.ex (mOp oInt [.ex (mOp oPlus [.ex (mOp oIx [.nm 11, .ex (mC (.int 0))]), .ex (mOp oMul [.nm 10, .ex (mOp oIx [.nm 8, .ex (mC (.int 0))])])])]), .ex (mOp oIx [.nm 1, .ex (mC (.int 0))])]), .ex (mOp oMod [.ex (mOp oInt [.ex (mOp oPlus [.ex (mOp oIx [.nm 11, .ex (mC (.int 1))]), .ex (mOp oMul [.nm 10, .ex (mOp oIx [.nm 8, .ex (mC (.int 1))])])])]), .ex (mOp oIx [.nm 1, .ex (mC (.int 1))])])])])
theorem two_of {z0 z1 : Int} : ∀ {r : List Int}, RowOk [z0, z1] r → ∃ x y, r = [x, y] ∧ 0 ≤ x ∧ x < z0 ∧ 0 ≤ y ∧ y < z1
  | [x, y], h => ⟨x, y, rfl, h.1, h.2.1, h.2.2.1, h.2.2.2.1⟩
  | [], h => nomatch h
  | [_], h => by cases h.2.2
  | _ :: _ :: _ :: _, h => by cases h.2.2.2.2
theorem mi_loop {z0 z1 c s0 s1 w : Int} (h0 : 2 ≤ z0 ∧ z0 ≤ 4) (h1 : 2 ≤ z1 ∧ z1 ≤ 4) (hc : 0 ≤ c ∧ c < w ∧ c ≤ 4) (o0 o2 o3 o4 o5 o6 o7 o12 o13 o14 : Option O) : ∀ (rs mk : Rw) (w11 : Option O), (∀ r ∈ rs, RowOk [z0, z1] r) → (∀ r ∈ mk, RowOk [w, z0, z1] r) → mk.length + rs.length ≤ 1000 →
    ∃ mk' w11', (∀ r ∈ mk', RowOk [w, z0, z1] r) ∧ mk'.length = mk.length + rs.length ∧ forL (gN 11) bMi (rwL rs) [o0, some (l2 z0 z1), o2, o3, o4, o5, o6, o7, some (l2 s0 s1), some (.l ((rwL mk).map O.d)), some (N c), w11, o12, o13, o14] = .nx [o0, some (l2 z0 z1), o2, o3, o4, o5, o6, o7, some (l2 s0 s1), some (.l ((rwL mk').map O.d)), some (N c), w11', o12, o13, o14]
  | [], mk, w11, _, hm, _ => ⟨mk, w11, hm, rfl, rfl⟩
  | r :: rs, mk, w11, hr, hm, hl => by
    rw [List.length_cons] at hl
    obtain ⟨x, y, rfl, x0, x1, y0, y1⟩ := two_of (hr r List.mem_cons_self)
    have sn := rwL_snoc mk [c, (x + c * s0) % z0, (y + c * s1) % z1]
    obtain ⟨mk', w11', m1, m2, e⟩ := mi_loop (s0 := s0) (s1 := s1) h0 h1 hc o0 o2 o3 o4 o5 o6 o7 o12 o13 o14 rs (mk ++ [[c, (x + c * s0) % z0, (y + c * s1) % z1]]) (some (.d (.tup [.int x, .int y]))) (fun r m => hr r (List.mem_cons_of_mem _ m)) (fun r m => by
      rcases List.mem_append.mp m with m | m
      · exact hm r m
      · rw [List.mem_singleton] at m
        subst m
        exact ⟨hc.1, hc.2.1, Int.emod_nonneg _ (by omega), Int.emod_lt_of_pos _ (by omega), Int.emod_nonneg _ (by omega), Int.emod_lt_of_pos _ (by omega), trivial⟩) (by rw [List.length_append, List.length_singleton]; omega)
    refine ⟨mk', w11', m1, by rw [m2, List.length_append, List.length_singleton, List.length_cons]; omega, ?_⟩
    have g : mk.length < 16000000 := by omega
    have rl := rwL_len mk
    have cm : ∀ s, cMul c s = true := fun s => by
      have : c = 0 ∨ c = 1 ∨ c = 2 ∨ c = 3 ∨ c = 4 := by omega
      rcases this with rfl | rfl | rfl | rfl | rfl <;> exact cMul_left (by decide)
    have zz0 : 0 < z0 := by omega
    have zz1 : 0 < z1 := by omega
    have r1 : rwL ([x, y] :: rs) = .tup [.int x, .int y] :: rwL rs := rfl
    rw [← e, sn, r1]
    generalize rwL mk = MK at *
    generalize rwL rs = RS at *
    simp [forL_cons, bMi, p2_0, p2_1, l2_0, l2_1, cm, rl, g, zz0, zz1]
def bMz : MS := mFor (mIt itS (mN 4)) (gN 11) bMi
theorem mo_loop2 {z0 z1 s0 s1 w : Int} (h0 : 2 ≤ z0 ∧ z0 ≤ 4) (h1 : 2 ≤ z1 ∧ z1 ≤ 4) (hw : w ≤ 4) (o0 o2 o3 o5 o6 o7 o12 o13 o14 : Option O) {rs : Rw} (hr : ∀ r ∈ rs, RowOk [z0, z1] r) (hrl : rs.length ≤ 7) : ∀ (its : List Int) (R : O) (mk : Rw) (w10 w11 : Option O), IsR R rs → (∀ c ∈ its, 0 ≤ c ∧ c < w) → (∀ r ∈ mk, RowOk [w, z0, z1] r) → mk.length + 7 * its.length ≤ 500 →
    ∃ R' mk' w10' w11', IsR R' rs ∧ (∀ r ∈ mk', RowOk [w, z0, z1] r) ∧ mk'.length = mk.length + its.length * rs.length ∧ forL (gN 10) bMz (I its) [o0, some (l2 z0 z1), o2, o3, some R, o5, o6, o7, some (l2 s0 s1), some (.l ((rwL mk).map O.d)), w10, w11, o12, o13, o14] = .nx [o0, some (l2 z0 z1), o2, o3, some R', o5, o6, o7, some (l2 s0 s1), some (.l ((rwL mk').map O.d)), w10', w11', o12, o13, o14]
  | [], R, mk, w10, w11, hR, _, hm, _ => ⟨R, mk, w10, w11, hR, hm, by simp, rfl⟩
  | c :: its, R, mk, w10, w11, hR, hc, hm, hl => by
    rw [List.length_cons] at hl
    have hcc := hc c List.mem_cons_self
    obtain ⟨mk1, w11', m1, m2, e1⟩ := mi_loop (s0 := s0) (s1 := s1) h0 h1 ⟨hcc.1, hcc.2, by omega⟩ o0 o2 o3 (some (.d (.lst (rwL rs)))) o5 o6 o7 o12 o13 o14 rs mk w11 hr hm (by omega)
    obtain ⟨R', mk', w10', w11'', i1, i2, i3, e⟩ := mo_loop2 (s0 := s0) (s1 := s1) h0 h1 hw o0 o2 o3 o5 o6 o7 o12 o13 o14 hr hrl its (.d (.lst (rwL rs))) mk1 (some (N c)) w11' (.inr rfl) (fun c m => hc c (List.mem_cons_of_mem _ m)) m1 (by omega)
    refine ⟨R', mk', w10', w11'', i1, i2, ?_, ?_⟩
    · rw [i3, m2, List.length_cons, Nat.succ_mul]
      omega
    · rw [← e]
      rcases hR with rfl | rfl
      · simp [forL_cons, bMz, e1]
      · simp [forL_cons, bMz, e1]
end K24
end
section
set_option Elab.async false
set_option linter.all false
set_option maxRecDepth 100000
set_option maxHeartbeats 4000000
namespace K24
open PySem PySem.Spec L2 L2H Dn K24M
open PyProof.Rows hiding St
def bAr : MS := mIf (mB (mOp oGt [.nm 7, .ex (mC (.int 0))])) (mSeq (mSet 8 (mComp (mRg [.ex (mC (.int 2))]) [14] (gN 14) (mYes) (mOp oSub [.ex (mOp oIx [.ex (mOp oIx [.nm 4, .ex (mOp oNeg [.ex (mC (.int 1))])]), .nm 14]), .ex (mOp oIx [.ex (mOp oIx [.nm 4, .ex (mC (.int 0))]), .nm 14])])))
  (mSeq (mSet 9 (mAll oLst []))
  (mSeq (mFor (mRg [.ex (mOp oPlus [.ex (mC (.int 1)), .nm 7])]) (gN 10) bMz)
  (mSeq (mSet 4 (mN 9))
  (mSet 1 (mOp oPlus [.ex (mAll oLst [.ex (mOp oPlus [.ex (mC (.int 1)), .nm 7])]), .nm 1])))))) (mPass)
structure Rz (zs : List Int) (rs : Rw) : Prop where
  n2 : 2 ≤ zs.length
  n3 : zs.length ≤ 3
  zb : ∀ z ∈ zs, 2 ≤ z ∧ z ≤ 4
  ok : ∀ r ∈ rs, RowOk zs r
  r1 : 1 ≤ rs.length
theorem rg2 : rgD 0 2 = [.int 0, .int 1] := rfl
theorem e_ar {z0 z1 t : Int} (h0 : 2 ≤ z0 ∧ z0 ≤ 4) (h1 : 2 ≤ z1 ∧ z1 ≤ 4) {rs : Rw} (hr : ∀ r ∈ rs, RowOk [z0, z1] r) (hl1 : 1 ≤ rs.length) (hl7 : rs.length ≤ 7) (t0 : 0 ≤ t) (t3 : t < 3) (o0 o2 o3 o5 o6 : Option O) :
    ∃ zs R rs' w8 w9 w10 w11, IsR R rs' ∧ Rz zs rs' ∧ rs'.length ≤ 21 ∧ (t = 0 → rs'.length ≤ 7) ∧ bAr [o0, some (l2 z0 z1), o2, o3, some (.l ((rwL rs).map O.d)), o5, o6, some (N t), none, none, none, none, none, none, none] = .nx [o0, some (Dn.L zs), o2, o3, some R, o5, o6, some (N t), w8, w9, w10, w11, none, none, none] := by
  by_cases q : 0 < t
  · obtain ⟨f, hf⟩ : ∃ f, rs[0]? = some f := ⟨_, List.getElem?_eq_getElem (by omega)⟩
    obtain ⟨l, hl⟩ : ∃ l, rs.getLast? = some l := by
      cases rs with
      | nil => simp at hl1
      | cons a b => exact ⟨_, List.getLast?_eq_some_getLast (by simp)⟩
    obtain ⟨x0, y0, rfl, -⟩ := two_of (hr f (List.mem_of_getElem? hf))
    obtain ⟨x1, y1, rfl, -⟩ := two_of (hr l (List.mem_of_getLast? hl))
    have g0 := rwL_get hf
    have gl : atI (rwL rs) (-1) = some (.tup [.int x1, .int y1]) := by
      refine at_last ?_
      unfold rwL
      rw [List.getLast?_map, hl]
      rfl
    obtain ⟨w, hw⟩ : ∃ w : Nat, (w : Int) = 1 + t := ⟨(1 + t).toNat, by omega⟩
    obtain ⟨R', mk', w10, w11, i1, i2, i3, e⟩ := mo_loop2 (s0 := x1 - x0) (s1 := y1 - y0) (w := 1 + t) h0 h1 (by omega) o0 o2 o3 o5 o6 (some (N t)) none none none hr hl7 ((List.range w).map fun (k : Nat) => (k : Int)) (.l ((rwL rs).map O.d)) [] none none (.inl rfl) (fun c m => by
      obtain ⟨k, mk, rfl⟩ := List.mem_map.mp m
      have := List.mem_range.mp mk
      omega) (fun r m => nomatch m) (by simp; omega)
    have ei : I ((List.range w).map fun (k : Nat) => (k : Int)) = rgD 0 w := by
      rw [rgD_zero]
      unfold I
      rw [List.map_map]
      rfl
    rw [ei] at e
    have wl : mk'.length = w * rs.length := by rw [i3]; simp
    have w23 : w = 2 ∨ w = 3 := by omega
    refine ⟨[1 + t, z0, z1], .d (.lst (rwL mk')), mk', some (l2 (x1 - x0) (y1 - y0)), some (.d (.lst (rwL mk'))), w10, w11, .inr rfl, ⟨by simp, by simp, fun z m => ?_, i2, ?_⟩, ?_, fun z => by omega, ?_⟩
    · simp at m
      rcases m with rfl | rfl | rfl <;> omega
    · rw [wl]
      rcases w23 with rfl | rfl <;> omega
    · rw [wl]
      rcases w23 with rfl | rfl <;> omega
    · have c3 : (-4611686018427387904 : Int) ≤ 1 + t ∧ 1 + t < 4611686018427387904 := by omega
      have tw : (1 + t).toNat = w := by omega
      have nl : rwL [] = [] := rfl
      rw [nl, List.map_nil] at e
      generalize rwL mk' = MK at *
      generalize rwL rs = RS at *
      simp [bAr, q, rg2, compL_cons, gl, g0, c3, tw, p2_0, p2_1, e]
  · refine ⟨[z0, z1], .l ((rwL rs).map O.d), rs, none, none, none, none, .inl rfl, ⟨by simp, by simp, fun z m => ?_, hr, hl1⟩, by omega, fun _ => hl7, ?_⟩
    · simp at m
      rcases m with rfl | rfl <;> omega
    · simp [bAr, q]
end K24
end
section
set_option Elab.async false
set_option linter.all false
set_option maxRecDepth 100000
set_option maxHeartbeats 4000000
namespace K24
open PySem PySem.Spec L2 L2H Dn K24M
open PyProof.Rows hiding St
def rw0 (rs : Rw) (k : Nat) : List Int := rs.getD k []
theorem rwL_at {rs : Rw} {k : Nat} (h : k < rs.length) : (rwL rs)[k]? = some (.tup (I (rw0 rs k))) := by
  refine rwL_get ?_
  unfold rw0
  rw [List.getD_eq_getElem?_getD, List.getElem?_eq_getElem h]
  rfl
theorem rw0_ok {zs : List Int} {rs : Rw} (h : ∀ r ∈ rs, RowOk zs r) {k : Nat} (hk : k < rs.length) : RowOk zs (rw0 rs k) := by
  unfold rw0
  rw [List.getD_eq_getElem?_getD, List.getElem?_eq_getElem hk]
  exact h _ (List.getElem_mem hk)
/-- each row twice -/
def twice (rs : Rw) : Rw := (List.range (2 * rs.length)).map fun k => rw0 rs (k / 2)
theorem twice_comp {R : O} {rs : Rw} (hR : IsR R rs) (hl : rs.length ≤ 100) (o0 o1 o2 o3 o6 o7 o8 o9 o10 o11 o12 o13 o14 : Option O) : compL [5] (gN 5) mYes (mOp oIx [.nm 4, .ex (mOp oDiv [.nm 5, .ex (mC (.int 2))])]) (rgD 0 (2 * rs.length)) [o0, o1, o2, o3, some R, none, o6, o7, o8, o9, o10, o11, o12, o13, o14] [] = .ok ((rwL (twice rs)).map O.d) [o0, o1, o2, o3, some R, none, o6, o7, o8, o9, o10, o11, o12, o13, o14] := by
  have e := compL_map (vs := [5]) (g := gN 5) (c := mYes) (m := mOp oIx [.nm 4, .ex (mOp oDiv [.nm 5, .ex (mC (.int 2))])]) (e := [o0, o1, o2, o3, some R, none, o6, o7, o8, o9, o10, o11, o12, o13, o14]) (fun d => match d with | .int i => .tup (I (rw0 rs (i.toNat / 2))) | d => d) (rgD 0 (2 * rs.length)) (fun d hd => by
    rw [rgD_zero] at hd
    obtain ⟨p, hp, rfl⟩ := List.mem_map.mp hd
    have hp := List.mem_range.mp hp
    refine ⟨[o0, o1, o2, o3, some R, some (N p), o6, o7, o8, o9, o10, o11, o12, o13, o14], [o0, o1, o2, o3, some R, some (N p), o6, o7, o8, o9, o10, o11, o12, o13, o14], [o0, o1, o2, o3, some R, some (N p), o6, o7, o8, o9, o10, o11, o12, o13, o14], rfl, rfl, ?_, rfl⟩
    have g := rwL_at (rs := rs) (k := p / 2) (by omega)
    have d1 : ∀ i, cDiv i 2 = true := fun i => by unfold cDiv; decide +kernel
    have ha := atO_l' ((rwL rs).map O.d) (rwL rs) ((p : Int) / 2) rfl
    have hk : atI (rwL rs) ((p : Int) / 2) = some (.tup (I (rw0 rs (p / 2)))) := by
      rw [show (p : Int) / 2 = ((p / 2 : Nat) : Int) by omega, Dn.atI_nat]
      exact g
    have tn : ((p : Int)).toNat = p := rfl
    rcases hR with rfl | rfl
    · generalize rwL rs = RS at *
      simp [d1, hk, ha]
    · generalize rwL rs = RS at *
      simp [d1, hk]) (by rw [rgD_zero]; simp; omega)
  rw [e]
  congr 2
  unfold rwL twice
  rw [rgD_zero, List.map_map, List.map_map]
  rfl
/-- rows with their stages -/
def mkSp (f : Nat → Nat) (rs : Rw) : Sp := (List.range rs.length).map fun k => (rw0 rs k, (f k : Int))
theorem mkSp_len (f : Nat → Nat) (rs : Rw) : (mkSp f rs).length = rs.length := by simp [mkSp]
theorem spD_mk (f : Nat → Nat) (rs : Rw) : (rgD 0 rs.length).map (fun d => match d with | .int i => D.tup [.tup (I (rw0 rs i.toNat)), .int (f i.toNat)] | d => d) = spD (mkSp f rs) := by
  unfold spD mkSp
  rw [rgD_zero, List.map_map, List.map_map]
  rfl
theorem sp_comp {R : O} {rs : Rw} (hR : IsR R rs) (hl : rs.length ≤ 100) (o0 o1 o2 o3 o6 o7 o8 o9 o10 o11 o12 o13 o14 : Option O) : compL [5] (gN 5) mYes (mAll oTup [.ex (mOp oIx [.nm 4, .nm 5]), .ex (mN 5)]) (rgD 0 rs.length) [o0, o1, o2, o3, some R, none, o6, o7, o8, o9, o10, o11, o12, o13, o14] [] = .ok ((spD (mkSp id rs)).map O.d) [o0, o1, o2, o3, some R, none, o6, o7, o8, o9, o10, o11, o12, o13, o14] := by
  have e := compL_map (vs := [5]) (g := gN 5) (c := mYes) (m := mAll oTup [.ex (mOp oIx [.nm 4, .nm 5]), .ex (mN 5)]) (e := [o0, o1, o2, o3, some R, none, o6, o7, o8, o9, o10, o11, o12, o13, o14]) (fun d => match d with | .int i => D.tup [.tup (I (rw0 rs i.toNat)), .int (id i.toNat : Nat)] | d => d) (rgD 0 rs.length) (fun d hd => by
    rw [rgD_zero] at hd
    obtain ⟨p, hp, rfl⟩ := List.mem_map.mp hd
    have hp := List.mem_range.mp hp
    refine ⟨[o0, o1, o2, o3, some R, some (N p), o6, o7, o8, o9, o10, o11, o12, o13, o14], [o0, o1, o2, o3, some R, some (N p), o6, o7, o8, o9, o10, o11, o12, o13, o14], [o0, o1, o2, o3, some R, some (N p), o6, o7, o8, o9, o10, o11, o12, o13, o14], rfl, rfl, ?_, rfl⟩
    have g := rwL_at (rs := rs) (k := p) (by omega)
    have ha := atO_l' ((rwL rs).map O.d) (rwL rs) ((p : Nat) : Int) rfl
    rcases hR with rfl | rfl
    · generalize rwL rs = RS at *
      simp [ha, ↓g]
    · generalize rwL rs = RS at *
      simp [↓g]) (by rw [rgD_zero]; simp; omega)
  rw [e, spD_mk]
theorem sp2_comp {R : O} {rs : Rw} (hR : IsR R rs) (hl : rs.length ≤ 100) (o0 o1 o2 o3 o6 o7 o8 o9 o10 o11 o12 o13 o14 : Option O) : compL [5] (gN 5) mYes (mAll oTup [.ex (mOp oIx [.nm 4, .nm 5]), .ex (mOp oDiv [.nm 5, .ex (mC (.int 2))])]) (rgD 0 rs.length) [o0, o1, o2, o3, some R, none, o6, o7, o8, o9, o10, o11, o12, o13, o14] [] = .ok ((spD (mkSp (· / 2) rs)).map O.d) [o0, o1, o2, o3, some R, none, o6, o7, o8, o9, o10, o11, o12, o13, o14] := by
  have e := compL_map (vs := [5]) (g := gN 5) (c := mYes) (m := mAll oTup [.ex (mOp oIx [.nm 4, .nm 5]), .ex (mOp oDiv [.nm 5, .ex (mC (.int 2))])]) (e := [o0, o1, o2, o3, some R, none, o6, o7, o8, o9, o10, o11, o12, o13, o14]) (fun d => match d with | .int i => D.tup [.tup (I (rw0 rs i.toNat)), .int ((i.toNat / 2 : Nat) : Int)] | d => d) (rgD 0 rs.length) (fun d hd => by
    rw [rgD_zero] at hd
    obtain ⟨p, hp, rfl⟩ := List.mem_map.mp hd
    have hp := List.mem_range.mp hp
    refine ⟨[o0, o1, o2, o3, some R, some (N p), o6, o7, o8, o9, o10, o11, o12, o13, o14], [o0, o1, o2, o3, some R, some (N p), o6, o7, o8, o9, o10, o11, o12, o13, o14], [o0, o1, o2, o3, some R, some (N p), o6, o7, o8, o9, o10, o11, o12, o13, o14], rfl, rfl, ?_, rfl⟩
    have g := rwL_at (rs := rs) (k := p) (by omega)
    have d1 : ∀ i, cDiv i 2 = true := fun i => by unfold cDiv; decide +kernel
    have ha := atO_l' ((rwL rs).map O.d) (rwL rs) ((p : Nat) : Int) rfl
    rcases hR with rfl | rfl
    · generalize rwL rs = RS at *
      simp [ha, ↓g, d1]
    · generalize rwL rs = RS at *
      simp [↓g, d1]) (by rw [rgD_zero]; simp; omega)
  rw [e, spD_mk (f := fun k => k / 2)]
/-- the spots that are kept -/
theorem mk_ok {zs : List Int} {rs : Rw} (h : Rz zs rs) {f : Nat → Nat} (f0 : f 0 = 0) (fs : ∀ k, f (k + 1) = f k ∨ f (k + 1) = f k + 1) {n : Nat} (hn : 1 ≤ n) (hl : rs.length ≤ 61) : Lf zs ((mkSp f rs).take n) ∧ Sg ((mkSp f rs).take n) := by
  have ml := mkSp_len f rs
  have r1 := h.r1
  have n2 := h.n2
  have gt : ∀ m, m < n → m < rs.length → stg ((mkSp f rs).take n) m = f m := fun m h1 h2 => by
    unfold stg mkSp
    rw [List.getD_eq_getElem?_getD, List.getElem?_take_of_lt h1, List.getElem?_map, List.getElem?_range h2]
    rfl
  refine ⟨⟨by omega, h.n3, h.zb, by rw [List.length_take]; omega, by rw [List.length_take]; omega, fun s m => ?_⟩, ⟨?_, fun m hm => ?_⟩⟩
  · have := List.mem_of_mem_take m
    unfold mkSp at this
    obtain ⟨k, hk, rfl⟩ := List.mem_map.mp this
    exact rw0_ok h.ok (List.mem_range.mp hk)
  · rw [gt 0 (by omega) (by omega), f0]
    rfl
  · rw [List.length_take] at hm
    rw [gt m (by omega) (by omega), gt (m + 1) (by omega) (by omega)]
    rcases fs m with e | e <;> rw [e]
    · exact .inl rfl
    · exact .inr (by omega)
end K24
end
section
set_option Elab.async false
set_option linter.all false
set_option maxRecDepth 100000
set_option maxHeartbeats 4000000
namespace K24
open PySem PySem.Spec L2 L2H Dn K24M
open PyProof.Rows hiding St
def bTw : MS := mIf (mTOr (mB (mOp (oEq false) [.nm 7, .ex (mC (.int 0))])) (mTAnd (mB (mOp (oEq false) [.nm 7, .ex (mC (.int 1))])) (mB (mOp oLe [.ex (mOp oLen [.nm 4]), .ex (mC (.int 10))])))) (mSet 4 (mComp (mRg [.ex (mOp oMul [.ex (mC (.int 2)), .ex (mOp oLen [.nm 4])])]) [5] (gN 5) (mYes) (mOp oIx [.nm 4, .ex (mOp oDiv [.nm 5, .ex (mC (.int 2))])]))) (mPass)
theorem twice_len (rs : Rw) : (twice rs).length = 2 * rs.length := by simp [twice]
theorem Rz.twice {zs : List Int} {rs : Rw} (h : Rz zs rs) : Rz zs (twice rs) :=
  ⟨h.n2, h.n3, h.zb, fun r m => by
    unfold K24.twice at m
    obtain ⟨k, hk, rfl⟩ := List.mem_map.mp m
    have := List.mem_range.mp hk
    exact rw0_ok h.ok (by omega), by rw [twice_len]; have := h.r1; omega⟩
theorem e_tw {zs : List Int} {R : O} {rs : Rw} (hR : IsR R rs) (h : Rz zs rs) (hl : rs.length ≤ 21) {t : Int} (ht : t = 0 → rs.length ≤ 7) (o0 o1 o2 o3 o5 o6 o8 o9 o10 o11 o12 o13 o14 : Option O) : ∃ R' rs' w5, IsR R' rs' ∧ Rz zs rs' ∧ rs'.length ≤ 60 ∧ bTw [o0, o1, o2, o3, some R, o5, o6, some (N t), o8, o9, o10, o11, o12, o13, o14] = .nx [o0, o1, o2, o3, some R', w5, o6, some (N t), o8, o9, o10, o11, o12, o13, o14] := by
  have c := twice_comp hR (by omega) o0 o1 o2 o3 o6 (some (N t)) o8 o9 o10 o11 o12 o13 o14
  have rl := rwL_len rs
  have tl := twice_len rs
  have c3 : (-4611686018427387904 : Int) ≤ 2 * (rs.length : Int) ∧ 2 * (rs.length : Int) < 4611686018427387904 := by omega
  have tn : (2 * (rs.length : Int)).toNat = 2 * rs.length := by omega
  have m2 : ∀ i, cMul 2 i = true := fun i => cMul_left (by decide)
  by_cases q : t = 0
  · subst q
    have q7 := ht rfl
    refine ⟨_, twice rs, none, .inl rfl, h.twice, by omega, ?_⟩
    rcases hR with rfl | rfl
    · generalize rwL rs = RS at *
      simp [bTw, rl, c3, tn, c, m2]
    · generalize rwL rs = RS at *
      simp [bTw, rl, c3, tn, c, m2]
  · by_cases q2 : t = 1 ∧ rs.length ≤ 10
    · obtain ⟨rfl, q3⟩ := q2
      have q4 : (rs.length : Int) ≤ 10 := by omega
      refine ⟨_, twice rs, none, .inl rfl, h.twice, by omega, ?_⟩
      rcases hR with rfl | rfl
      · generalize rwL rs = RS at *
        simp [bTw, rl, c3, tn, c, m2, q3, q4]
      · generalize rwL rs = RS at *
        simp [bTw, rl, c3, tn, c, m2, q3, q4]
    · refine ⟨R, rs, o5, hR, h, by omega, ?_⟩
      by_cases q1 : t = 1
      · have q3 : ¬ rs.length ≤ 10 := fun z => q2 ⟨q1, z⟩
        have q4 : ¬ (rs.length : Int) ≤ 10 := by omega
        subst q1
        rcases hR with rfl | rfl
        · generalize rwL rs = RS at *
          simp [bTw, rl, q3, q4]
        · generalize rwL rs = RS at *
          simp [bTw, rl, q3, q4]
      · simp [bTw, q, q1]
def bEn : MS := mSeq (mSet 12 (mOp (oEq false) [.ex (mCall D__law_take [.nm 0, .ex (mC (.int 2))]), .ex (mC (.int 0))]))
  (mSeq (mSet 13 (mComp (mRg [.ex (mOp oLen [.nm 4])]) [5] (gN 5) (mYes) (mAll oTup [.ex (mOp oIx [.nm 4, .nm 5]), .ex (mN 5)])))
  (mSeq (mIf (mTru (.nm 12)) (mSet 13 (mComp (mRg [.ex (mOp oLen [.nm 4])]) [5] (gN 5) (mYes) (mAll oTup [.ex (mOp oIx [.nm 4, .nm 5]), .ex (mOp oDiv [.nm 5, .ex (mC (.int 2))])]))) (mPass))
  (mRet (mAll oTup [.ex (mOp (op1 toTup) [.nm 1]), .ex (mOp (op1 toTup) [.ex (mSlice (.nm 13) none (some (mOp oPlus [.ex (mC (.int 1)), .ex (mCall D__law_take [.nm 0, .ex (mC (.int 60))])])))])]))))
theorem cut_spD (sp : Sp) (k : Nat) : Dn.cutD (spD sp) none (some (k : Int)) = spD (sp.take k) := by
  unfold Dn.cutD
  have e : HT.sIx (spD sp).length (spD sp).length (some (k : Int)) = min k (spD sp).length := by
    simp [HT.sIx]
    try omega
  rw [e]
  simp [HT.sIx, spD, List.map_take]
theorem slice_l (ds : List D) (lo hi : Option Int) : sliceO (.l (ds.map O.d)) lo hi = some (.l ((Dn.cutD ds lo hi).map O.d)) := by
  have e : lstF (.l (ds.map O.d)) = some ds := allD_map ds
  show (lstF (.l (ds.map O.d))).map (fun xs => O.l ((Dn.cutD xs lo hi).map O.d)) = _
  rw [e]
  rfl
theorem e_en {zs : List Int} {R : O} {rs : Rw} (hR : IsR R rs) (h : Rz zs rs) (hl : rs.length ≤ 60) {ns : List Int} (hn : ns ≠ []) (o2 o3 o5 o6 o7 o8 o9 o10 o11 o12 o13 o14 : Option O) : ∃ sp ns' e, ns' ≠ [] ∧ Lf zs sp ∧ Sg sp ∧ bEn [some (Po ns), some (Dn.L zs), o2, o3, some R, o5, o6, o7, o8, o9, o10, o11, o12, o13, o14] = .rt (lfO zs sp) (some (Po ns') :: e) := by
  obtain ⟨t, ns1, n1, t0, t1, e1⟩ := e_take hn (many := 2) (by decide)
  obtain ⟨u, ns2, n2, u0, u1, e2⟩ := e_take n1 (many := 60) (by decide)
  obtain ⟨k, hk⟩ : ∃ k : Nat, (k : Int) = 1 + u := ⟨(1 + u).toNat, by omega⟩
  have rl := rwL_len rs
  have c3 : (rs.length : Int) < 4611686018427387904 := by omega
  by_cases q : t = 0
  · subst q
    obtain ⟨m1, m2⟩ := mk_ok h (f := fun k => k / 2) rfl (fun k => by omega) (n := k) (by omega) (by omega)
    have c1 := sp_comp hR (by omega) (some (Po ns1)) (some (Dn.L zs)) o2 o3 o6 o7 o8 o9 o10 o11 (some tt) o13 o14
    have c2 := sp2_comp hR (by omega) (some (Po ns1)) (some (Dn.L zs)) o2 o3 o6 o7 o8 o9 o10 o11 (some tt) (some (spL (mkSp id rs))) o14
    have ct := cut_spD (mkSp (fun k => k / 2) rs) k
    rw [hk] at ct
    refine ⟨_, ns2, [some (Dn.L zs), o2, o3, some R, none, o6, o7, o8, o9, o10, o11, some tt, some (spL (mkSp (fun k => k / 2) rs)), o14], n2, m1, m2, ?_⟩
    have sl := spD_len (mkSp (fun k => k / 2) rs)
    rw [mkSp_len] at sl
    unfold spL at c1 c2 ⊢
    generalize spD (mkSp id rs) = S1 at *
    generalize spD (mkSp (fun k => k / 2) rs) = S2 at *
    rcases hR with rfl | rfl
    · generalize rwL rs = RS at *
      simp [bEn, e1, rl, c3, c1, c2, e2, ct, slice_l]
    · generalize rwL rs = RS at *
      simp [bEn, e1, rl, c3, c1, c2, e2, ct, slice_l]
  · obtain ⟨m1, m2⟩ := mk_ok h (f := id) rfl (fun k => .inr rfl) (n := k) (by omega) (by omega)
    have c1 := sp_comp hR (by omega) (some (Po ns1)) (some (Dn.L zs)) o2 o3 o6 o7 o8 o9 o10 o11 (some ff) o13 o14
    have ct := cut_spD (mkSp id rs) k
    rw [hk] at ct
    refine ⟨_, ns2, [some (Dn.L zs), o2, o3, some R, none, o6, o7, o8, o9, o10, o11, some ff, some (spL (mkSp id rs)), o14], n2, m1, m2, ?_⟩
    have sl := spD_len (mkSp id rs)
    rw [mkSp_len] at sl
    unfold spL at c1 ⊢
    generalize spD (mkSp id rs) = S1 at *
    rcases hR with rfl | rfl
    · generalize rwL rs = RS at *
      simp [bEn, e1, rl, c3, c1, q, e2, ct, slice_l]
    · generalize rwL rs = RS at *
      simp [bEn, e1, rl, c3, c1, q, e2, ct, slice_l]
end K24
end
section
set_option Elab.async false
set_option linter.all false
set_option maxRecDepth 100000
set_option maxHeartbeats 4000000
namespace K24
open PySem PySem.Spec L2 L2H Dn K24M
open PyProof.Rows hiding St
def mBu : MS :=
  mSeq (mSet 1 (mAll oLst [.ex (mOp oPlus [.ex (mC (.int 2)), .ex (mCall D__law_take [.nm 0, .ex (mC (.int 3))])]), .ex (mOp oPlus [.ex (mC (.int 2)), .ex (mCall D__law_take [.nm 0, .ex (mC (.int 3))])])]))
  (mSeq (mSet 2 (mAll oLst [.ex (mFz (mCall D__law_order [.nm 0, .ex (mOp oIx [.nm 1, .ex (mC (.int 0))])])), .ex (mFz (mCall D__law_order [.nm 0, .ex (mOp oIx [.nm 1, .ex (mC (.int 1))])]))]))
  (mSeq (mSet 3 (mAll oLst [.ex (mC (.int 0)), .ex (mC (.int 0))]))
  (mSeq (mSet 4 (mAll oLst [.ex (mAll oTup [.ex (mOp oIx [.ex (mOp oIx [.nm 2, .ex (mC (.int 0))]), .ex (mC (.int 0))]), .ex (mOp oIx [.ex (mOp oIx [.nm 2, .ex (mC (.int 1))]), .ex (mC (.int 0))])])]))
  (mSeq (mFor (mRg [.ex (mOp oSub [.ex (mOp oPlus [.ex (mOp oIx [.nm 1, .ex (mC (.int 0))]), .ex (mOp oIx [.nm 1, .ex (mC (.int 1))])]), .ex (mC (.int 2))])]) (gN 5) bBu)
  (mSeq (mSet 7 (mCall D__law_take [.nm 0, .ex (mC (.int 3))]))
  (mSeq bAr
  (mSeq bTw
  bEn)))))))
theorem mBu_eq : D__law_built_life = fnD [0] 15 mBu := rfl
theorem e_built {ns : List Int} (hn : ns ≠ []) : ∃ zs sp ns', ns' ≠ [] ∧ Lf zs sp ∧ Sg sp ∧ D__law_built_life [Po ns] = .ok (lfO zs sp) [some (Po ns')] := by
  obtain ⟨m0, ns1, n1, a0, a1, e1⟩ := e_take hn (many := 3) (by decide)
  obtain ⟨m1, ns2, n2, b0, b1, e2⟩ := e_take n1 (many := 3) (by decide)
  obtain ⟨z0, hz0⟩ : ∃ z0, z0 = 2 + m0 := ⟨_, rfl⟩
  obtain ⟨z1, hz1⟩ : ∃ z1, z1 = 2 + m1 := ⟨_, rfl⟩
  have h0 : 2 ≤ z0 ∧ z0 ≤ 4 := by omega
  have h1 : 2 ≤ z1 ∧ z1 ≤ 4 := by omega
  obtain ⟨a, ns3, n3, al, av, e3⟩ := e_order n2 h0
  obtain ⟨b, ns4, n4, bl, bv, e4⟩ := e_order n3 h1
  obtain ⟨x, hx⟩ : ∃ x, a[0]? = some x := ⟨_, List.getElem?_eq_getElem (by omega)⟩
  obtain ⟨y, hy⟩ : ∃ y, b[0]? = some y := ⟨_, List.getElem?_eq_getElem (by omega)⟩
  have vx := av x (List.mem_of_getElem? hx)
  have vy := bv y (List.mem_of_getElem? hy)
  obtain ⟨w, hw⟩ : ∃ w : Nat, (w : Int) = z0 + z1 - 2 := ⟨(z0 + z1 - 2).toNat, by omega⟩
  obtain ⟨ns5, p, q, rs, w5, w6, n5, hB, e5⟩ := bu_loop h0 h1 al bl av bv [none, none, none, none, none, none, none, none] (rgD 0 w) ns4 0 0 [[x, y]] none none n4 ⟨fun r m => by rw [List.mem_singleton] at m; subst m; exact ⟨vx.1, vx.2, vy.1, vy.2, trivial⟩, rfl, by omega, by omega⟩ (by rw [rgD_zero]; simp; omega)
  simp only [List.cons_append, List.nil_append] at e5
  obtain ⟨t, ns6, n6, t0, t1, e6⟩ := e_take n5 (many := 3) (by decide)
  have bq := hB.hq
  have bp := hB.hp
  have ll := hB.len
  obtain ⟨zs, R, rs', w8, w9, w10, w11, hR, hz, hl, h7, e7⟩ := e_ar h0 h1 hB.ok (by omega) (by omega) t0 t1 (some (Po ns6)) (some (or2 a b)) (some (l2 p q)) w5 w6
  obtain ⟨R2, rs2, w5', hR2, hz2, hl2, e8⟩ := e_tw hR hz hl h7 (some (Po ns6)) (some (Dn.L zs)) (some (or2 a b)) (some (l2 p q)) w5 w6 w8 w9 w10 w11 none none none
  obtain ⟨sp, ns7, ev, n7, hL, hS, e9⟩ := e_en hR2 hz2 hl2 n6 (some (or2 a b)) (some (l2 p q)) w5' w6 (some (N t)) w8 w9 w10 w11 none none none
  refine ⟨zs, sp, ns7, n7, hL, hS, ?_⟩
  have c3 : (-4611686018427387904 : Int) ≤ z0 + z1 - 2 ∧ z0 + z1 - 2 < 4611686018427387904 := by omega
  have tw : (z0 + z1 - 2).toNat = w := by omega
  have r0 : rwL [[x, y]] = [.tup [.int x, .int y]] := rfl
  have z00 : ((0 : Nat) : Int) = 0 := rfl
  rw [r0, z00] at e5
  simp only [List.map_cons, List.map_nil] at e5
  generalize rwL rs = RS at *
  rw [mBu_eq]
  simp [mBu, e1, e2, ← hz0, ← hz1, l2_0, l2_1, e3, e4, or2_0, or2_1, hx, hy, c3, tw, e5, e6, e7, e8, e9]
end K24
end
section
set_option Elab.async false
set_option linter.all false
set_option maxRecDepth 100000
set_option maxHeartbeats 4000000
namespace K24
open PySem PySem.Spec L2 L2H Dn K24M
open PyProof.Rows hiding St
theorem nats_of {n : Nat} : ∀ {rs : List Int}, (∀ x ∈ rs, 0 ≤ x ∧ x < (n : Int)) → ∃ tr : List Nat, rs = jn tr ∧ ∀ k ∈ tr, k < n
  | [], _ => ⟨[], rfl, fun _ m => nomatch m⟩
  | x :: rs, h => by
    obtain ⟨tr, rfl, ht⟩ := nats_of fun y m => h y (List.mem_cons_of_mem _ m)
    obtain ⟨x0, x1⟩ := h x List.mem_cons_self
    obtain ⟨k, rfl⟩ := Int.eq_ofNat_of_zero_le x0
    exact ⟨k :: tr, rfl, fun j m => by
      rcases List.mem_cons.mp m with rfl | m
      · omega
      · exact ht j m⟩
theorem jn_range (n : Nat) : rgD 0 n = I (jn (List.range n)) := by
  rw [rgD_zero]
  unfold I jn
  rw [List.map_map]
  rfl
/-- a tour -/
structure To (zs : List Int) (tr : List Nat) : Prop where
  t : ∀ k ∈ tr, k < zs.length
  t1 : 1 ≤ tr.length
  t5 : tr.length ≤ 5
theorem tour_comp {zs : List Int} {sp : Sp} (h1 : 1 ≤ zs.length) {ns : List Int} (hn : ns ≠ []) (k : Nat) (hk : k ≤ 1000) (o2 o3 : Option O) : ∃ tr ns', ns' ≠ [] ∧ tr.length = k ∧ (∀ j ∈ tr, j < zs.length) ∧ compL [4] (gN 4) mYes (mCall D__law_take [.nm 0, .ex (mOp oLen [.ex (mOp oIx [.nm 1, .ex (mC (.int 0))])])]) (rgD 0 k) [some (Po ns), some (lfO zs sp), o2, o3, none] [] = .ok ((I (jn tr)).map O.d) [some (Po ns'), some (lfO zs sp), o2, o3, none] := by
  have l0 := lf0 zs sp
  obtain ⟨rs, ns', h1, h2, h3⟩ := comp_draws (vw := [4]) (g := gN 4) (m := mCall D__law_take [.nm 0, .ex (mOp oLen [.ex (mOp oIx [.nm 1, .ex (mC (.int 0))])])]) (fun ns => [some (Po ns), some (lfO zs sp), o2, o3, none]) (fun _ r => 0 ≤ r ∧ r < (zs.length : Int)) (rgD 0 k) ns [] hn (by rw [rgD_zero]; simp; omega) (fun x _ ns hn => by
    obtain ⟨r, ns1, n1, r0, r1, e⟩ := e_take hn (many := (zs.length : Int)) (by omega)
    refine ⟨r, ns1, n1, ⟨r0, r1⟩, [some (Po ns), some (lfO zs sp), o2, o3, some (.d x)], [some (Po ns1), some (lfO zs sp), o2, o3, some (.d x)], rfl, ?_, rfl⟩
    simp [l0, e])
  obtain ⟨tr, rfl, ht⟩ := nats_of (n := zs.length) (h2.all (P := fun r => 0 ≤ r ∧ r < (zs.length : Int)) (fun _ _ q => q))
  exact ⟨tr, ns', h1, by have := h2.len; rw [jn_len, rgD_zero] at this; simpa using this, ht, h3⟩
abbrev ltO (zs : List Int) (sp : Sp) (tr : List Nat) : O := .d (.tup [.tup [.tup (I zs), .tup (spD sp)], .tup (I (jn tr))])
theorem e_life {ns : List Int} (hn : ns ≠ []) : ∃ zs sp tr ns', ns' ≠ [] ∧ Lf zs sp ∧ Sg sp ∧ To zs tr ∧ D__law_life [Po ns] = .ok (ltO zs sp tr) [some (Po ns')] := by
  obtain ⟨t, ns1, n1, t0, t1, e1⟩ := e_take hn (many := 2) (by decide)
  by_cases q : t = 0
  · subst q
    obtain ⟨zs, sp, ns2, n2, hL, hS, e2⟩ := e_drawn n1
    obtain ⟨c, ns3, n3, c0, c1, e3⟩ := e_take n2 (many := 5) (by decide)
    obtain ⟨k, hk⟩ : ∃ k : Nat, (k : Int) = 1 + c := ⟨(1 + c).toNat, by omega⟩
    obtain ⟨tr, ns4, n4, tl, ht, e4⟩ := tour_comp (zs := zs) (sp := sp) hL.z1 n3 k (by omega) (some (N (1 + c))) none
    refine ⟨zs, sp, tr, ns4, n4, hL, hS, ⟨ht, by omega, by omega⟩, ?_⟩
    have c3 : (-4611686018427387904 : Int) ≤ 1 + c ∧ 1 + c < 4611686018427387904 := by omega
    have tk : (1 + c).toNat = k := by omega
    simp [D__law_life, m__law_life, e1, e2, e3, c3, tk, e4]
  · obtain ⟨zs, sp, ns2, n2, hL, hS, e2⟩ := e_built n1
    have l0 := lf0 zs sp
    have z1 := hL.z1
    have z3 := hL.z3
    have c3 : (-4611686018427387904 : Int) ≤ (zs.length : Int) ∧ (zs.length : Int) < 4611686018427387904 := by omega
    have li : zs.length ≤ 16777216 := by omega
    have jr := jn_range zs.length
    have r3 : rgD 0 3 = [.int 0, .int 1, .int 2] := rfl
    by_cases q3 : zs.length = 3
    · have q4 : (zs.length : Int) = 3 := by omega
      obtain ⟨d, ns3, n3, d0, d1, e3⟩ := e_take n2 (many := 3) (by decide)
      obtain ⟨tr, ht, hr⟩ : ∃ tr : List Nat, To zs tr ∧ tr.length ≤ 4 ∧ (I (jn tr)) = (if 0 < d then [.int 0, .int 1, .int 2, .int 0] else [.int 0, .int 1, .int 2]) := by
        by_cases qd : 0 < d
        · refine ⟨[0, 1, 2, 0], ⟨fun k m => ?_, by simp, by simp⟩, by simp, by rw [if_pos qd]; rfl⟩
          simp at m
          rcases m with rfl | rfl | rfl | rfl <;> omega
        · refine ⟨[0, 1, 2], ⟨fun k m => ?_, by simp, by simp⟩, by simp, by rw [if_neg qd]; rfl⟩
          simp at m
          rcases m with rfl | rfl | rfl <;> omega
      obtain ⟨u, ns4, n4, u0, u1, e4⟩ := e_take n3 (many := 4) (by decide)
      obtain ⟨v, ns5, n5, v0, v1, e5⟩ := e_take n4 (many := 3) (by decide)
      obtain ⟨k, rfl⟩ := Int.eq_ofNat_of_zero_le v0
      have ja : I (jn (tr ++ [k])) = I (jn tr) ++ [.int k] := by rw [jn_snoc]; unfold I; rw [List.map_append]; rfl
      obtain ⟨hr1, hr2⟩ := hr
      by_cases qu : u = 0
      · subst qu
        refine ⟨zs, sp, tr ++ [k], ns5, n5, hL, hS, ⟨fun j m => ?_, by simp, by simp; omega⟩, ?_⟩
        · rcases List.mem_append.mp m with m | m
          · exact ht.t j m
          · rw [List.mem_singleton] at m
            omega
        · unfold ltO
          rw [ja, hr2]
          by_cases qd : 0 < d
          · simp [D__law_life, m__law_life, e1, q, e2, e3, e4, e5, q3, q4, l0, qd, r3, line]
          · simp [D__law_life, m__law_life, e1, q, e2, e3, e4, e5, q3, q4, l0, qd, r3, line]
      · refine ⟨zs, sp, tr, ns4, n4, hL, hS, ht, ?_⟩
        unfold ltO
        rw [hr2]
        by_cases qd : 0 < d
        · simp [D__law_life, m__law_life, e1, q, e2, e3, e4, qu, q3, q4, l0, qd, r3, line]
        · simp [D__law_life, m__law_life, e1, q, e2, e3, e4, qu, q3, q4, l0, qd, r3, line]
    · have q4 : ¬ (zs.length : Int) = 3 := by omega
      obtain ⟨u, ns4, n4, u0, u1, e4⟩ := e_take n2 (many := 4) (by decide)
      obtain ⟨v, ns5, n5, v0, v1, e5⟩ := e_take n4 (many := (zs.length : Int)) (by omega)
      obtain ⟨k, rfl⟩ := Int.eq_ofNat_of_zero_le v0
      have ja : I (jn (List.range zs.length ++ [k])) = I (jn (List.range zs.length)) ++ [.int k] := by rw [jn_snoc]; unfold I; rw [List.map_append]; rfl
      have rl : (rgD 0 zs.length).length = zs.length := by rw [rgD_zero]; simp
      have lr : zs.length ≤ 16777215 := by omega
      have lr2 : zs.length + 1 ≤ 16777216 := by omega
      by_cases qu : u = 0
      · subst qu
        refine ⟨zs, sp, List.range zs.length ++ [k], ns5, n5, hL, hS, ⟨fun j m => ?_, by simp, by simp; omega⟩, ?_⟩
        · rcases List.mem_append.mp m with m | m
          · exact List.mem_range.mp m
          · rw [List.mem_singleton] at m
            omega
        · unfold ltO
          rw [ja]
          simp [D__law_life, m__law_life, e1, q, e2, e4, e5, q3, q4, l0, c3, li, jr, lr, lr2]
      · refine ⟨zs, sp, List.range zs.length, ns4, n4, hL, hS, ⟨fun j m => List.mem_range.mp m, by simp; omega, by simp; omega⟩, ?_⟩
        unfold ltO
        simp [D__law_life, m__law_life, e1, q, e2, e4, qu, q3, q4, l0, c3, li, jr, lr, lr2]
end K24
end
section
set_option Elab.async false
set_option linter.all false
set_option maxRecDepth 100000
set_option maxHeartbeats 4000000
namespace K24
open PySem PySem.Spec L2 L2H Dn K24M
open PyProof.Rows hiding St
theorem dInts_i : ∀ l : List Int, dInts (I l) = some l
  | [] => rfl
  | i :: l => by
    have := dInts_i l
    show (dInts (I l)).map (i :: ·) = _
    rw [this]
    rfl
theorem sorted_L (l : List Int) : oSorted [Dn.L l] = some (Dn.L (sortI l)) := by
  have e : seqF (Dn.L l) = some (I l) := allD_map _
  simp only [oSorted, op1_e, e, Option.bind_some, dInts_i, Option.map_some]
  unfold Dn.L I
  rw [List.map_map]
  rfl
theorem FA.pk {zs : List Int} : ∀ {tr : List Nat} {rs : List Int}, FA (fun d r => ∃ k : Nat, d = .int k ∧ 0 ≤ r ∧ r < zs.getD k 0) (I (jn tr)) rs → RowOk (pk zs tr) rs
  | [], [], _ => trivial
  | k :: tr, r :: rs, h => by
    obtain ⟨⟨k', e, h1, h2⟩, h3⟩ := h
    have : k' = k := by
      injection e with e
      exact (Int.ofNat.inj e).symm
    subst this
    exact ⟨h1, h2, FA.pk h3⟩
theorem FA.rng {xs : List Int} : ∀ {n lo : Nat} {rs : List Int}, lo + n = xs.length → FA (fun d r => ∃ k : Nat, d = .int k ∧ ∃ z, xs[k]? = some z ∧ 0 ≤ r ∧ r < z) ((List.range' lo n).map fun (i : Nat) => D.int i) rs → RowOk (xs.drop lo) rs
  | 0, lo, [], hl, _ => by rw [List.drop_eq_nil_of_le (by omega)]; trivial
  | n + 1, lo, r :: rs, hl, h => by
    rw [List.range'_succ, List.map_cons] at h
    obtain ⟨⟨k', e, z, hz, h1, h2⟩, h3⟩ := h
    have : k' = lo := by
      injection e with e
      exact (Int.ofNat.inj e).symm
    subst this
    have := FA.rng (xs := xs) (n := n) (lo := k' + 1) (by omega) h3
    obtain ⟨g1, g2⟩ := List.getElem?_eq_some_iff.mp hz
    rw [List.drop_eq_getElem_cons g1, g2]
    exact ⟨h1, h2, this⟩
theorem pk_get {zs : List Int} {tr : List Nat} (ht : ∀ k ∈ tr, k < zs.length) {j : Nat} {d : Nat} (h : tr[j]? = some d) : ∃ z, zs[d]? = some z ∧ (pk zs tr)[j]? = some z := by
  have hd := ht d (List.mem_of_getElem? h)
  refine ⟨zs[d], List.getElem?_eq_getElem hd, ?_⟩
  unfold pk
  rw [List.getElem?_map, h]
  simp [List.getD_eq_getElem?_getD, List.getElem?_eq_getElem hd]
section
variable {zs : List Int} {sp : Sp} {tr : List Nat}
theorem v3_comp (hL : Lf zs sp) (ht : To zs tr) {ns : List Int} (hn : ns ≠ []) (o1 o3 o5 o6 o7 o8 o10 : Option O) : ∃ vs ns', ns' ≠ [] ∧ RowOk (pk zs tr) vs ∧ compL [9] (gN 9) mYes (mCall D__law_take [.nm 0, .ex (mOp oIx [.nm 4, .nm 9])]) (I (jn tr)) [some (Po ns), o1, some (T (jn tr)), o3, some (T zs), o5, o6, o7, o8, none, o10] [] = .ok ((I vs).map O.d) [some (Po ns'), o1, some (T (jn tr)), o3, some (T zs), o5, o6, o7, o8, none, o10] := by
  have t5 := ht.t5
  have jl := jn_len tr
  obtain ⟨rs, ns', h1, h2, h3⟩ := comp_draws (vw := [9]) (g := gN 9) (m := mCall D__law_take [.nm 0, .ex (mOp oIx [.nm 4, .nm 9])]) (fun ns => [some (Po ns), o1, some (T (jn tr)), o3, some (T zs), o5, o6, o7, o8, none, o10]) (fun d r => ∃ k : Nat, d = .int k ∧ 0 ≤ r ∧ r < zs.getD k 0) (I (jn tr)) ns [] hn (by simp; omega) (fun x hx ns hn => by
    obtain ⟨i, mi, rfl⟩ := I_mem hx
    obtain ⟨k, mk, rfl⟩ := List.mem_map.mp mi
    have hk := ht.t k mk
    have hz : zs[k]? = some zs[k] := List.getElem?_eq_getElem hk
    have hg : zs.getD k 0 = zs[k] := by rw [List.getD_eq_getElem?_getD, hz]; rfl
    have hb := hL.zb zs[k] (List.getElem_mem hk)
    obtain ⟨r, ns1, n1, r0, r1, e⟩ := e_take hn (many := zs[k]) (by omega)
    refine ⟨r, ns1, n1, ⟨k, rfl, r0, by rw [hg]; exact r1⟩, [some (Po ns), o1, some (T (jn tr)), o3, some (T zs), o5, o6, o7, o8, some (N k), o10], [some (Po ns1), o1, some (T (jn tr)), o3, some (T zs), o5, o6, o7, o8, some (N k), o10], rfl, ?_, rfl⟩
    generalize jn tr = TJ at *
    simp [hz, e])
  exact ⟨rs, ns', h1, h2.pk, h3⟩
theorem vm_comp (hL : Lf zs sp) (ht : To zs tr) {ns : List Int} (hn : ns ≠ []) (o1 o3 o4 o6 o7 o8 o10 : Option O) : ∃ ms ns', ns' ≠ [] ∧ ms.length = tr.length ∧ (∀ m ∈ ms, 0 ≤ m ∧ m < (sp.length : Int)) ∧ compL [9] (gN 9) mYes (mOp oInt [.ex (mCall D__law_take [.nm 0, .ex (mOp oLen [.nm 5])])]) (I (jn tr)) [some (Po ns), o1, some (T (jn tr)), o3, o4, some (.d (.tup (spD sp))), o6, o7, o8, none, o10] [] = .ok ((I ms).map O.d) [some (Po ns'), o1, some (T (jn tr)), o3, o4, some (.d (.tup (spD sp))), o6, o7, o8, none, o10] := by
  have t5 := ht.t5
  have jl := jn_len tr
  have s1 := hL.s1
  have sl := spD_len sp
  obtain ⟨rs, ns', h1, h2, h3⟩ := comp_draws (vw := [9]) (g := gN 9) (m := mOp oInt [.ex (mCall D__law_take [.nm 0, .ex (mOp oLen [.nm 5])])]) (fun ns => [some (Po ns), o1, some (T (jn tr)), o3, o4, some (.d (.tup (spD sp))), o6, o7, o8, none, o10]) (fun d r => 0 ≤ r ∧ r < (sp.length : Int)) (I (jn tr)) ns [] hn (by simp; omega) (fun x hx ns hn => by
    obtain ⟨r, ns1, n1, r0, r1, e⟩ := e_take hn (many := (sp.length : Int)) (by omega)
    refine ⟨r, ns1, n1, ⟨r0, r1⟩, [some (Po ns), o1, some (T (jn tr)), o3, o4, some (.d (.tup (spD sp))), o6, o7, o8, some (.d x), o10], [some (Po ns1), o1, some (T (jn tr)), o3, o4, some (.d (.tup (spD sp))), o6, o7, o8, some (.d x), o10], rfl, ?_, rfl⟩
    generalize jn tr = TJ at *
    generalize spD sp = SD at *
    simp [sl, e])
  exact ⟨rs, ns', h1, by rw [h2.len, I_len, jn_len], h2.all (P := fun r => 0 ≤ r ∧ r < (sp.length : Int)) (fun _ _ q => q), h3⟩
theorem vv_comp (hL : Lf zs sp) (ht : To zs tr) {ms : List Nat} (hm : ms.length = tr.length) (hs : ∀ m ∈ ms, m < sp.length) (o0 o1 o3 o4 o7 o8 o9 : Option O) : ∃ vs, RowOk (pk zs tr) vs ∧ compL [10] (gN 10) mYes (mOp oIx [.ex (mOp oIx [.ex (mOp oIx [.nm 5, .ex (mOp oIx [.nm 6, .nm 10])]), .ex (mC (.int 0))]), .ex (mOp oIx [.nm 2, .nm 10])]) (rgD 0 tr.length) [o0, o1, some (T (jn tr)), o3, o4, some (.d (.tup (spD sp))), some (Dn.L (jn ms)), o7, o8, o9, none] [] = .ok ((I vs).map O.d) [o0, o1, some (T (jn tr)), o3, o4, some (.d (.tup (spD sp))), some (Dn.L (jn ms)), o7, o8, o9, none] := by
  have t5 := ht.t5
  have rz := rgD_nat 0 tr.length
  obtain ⟨rs, ns', h1, h2, h3⟩ := comp_draws (vw := [10]) (g := gN 10) (m := mOp oIx [.ex (mOp oIx [.ex (mOp oIx [.nm 5, .ex (mOp oIx [.nm 6, .nm 10])]), .ex (mC (.int 0))]), .ex (mOp oIx [.nm 2, .nm 10])]) (fun _ => [o0, o1, some (T (jn tr)), o3, o4, some (.d (.tup (spD sp))), some (Dn.L (jn ms)), o7, o8, o9, none]) (fun d r => ∃ k : Nat, d = .int k ∧ ∃ z, (pk zs tr)[k]? = some z ∧ 0 ≤ r ∧ r < z) (rgD 0 tr.length) [0] [] (by simp) (by rw [rgD_zero]; simp; omega) (fun x hx ns hn => by
    rw [rgD_zero] at hx
    obtain ⟨p, hp, rfl⟩ := List.mem_map.mp hx
    have hp := List.mem_range.mp hp
    obtain ⟨d, hd⟩ : ∃ d, tr[p]? = some d := ⟨_, List.getElem?_eq_getElem hp⟩
    obtain ⟨m, hm⟩ : ∃ m, ms[p]? = some m := ⟨_, List.getElem?_eq_getElem (by omega)⟩
    have hms := hs m (List.mem_of_getElem? hm)
    obtain ⟨z, hz, hz2⟩ := pk_get ht.t hd
    have hdl := ht.t d (List.mem_of_getElem? hd)
    have hrow := row_get hL hms hdl
    obtain ⟨v, hv, v0, v1⟩ := RowOk_at (hL.row_ok hms) hz
    have hv2 := hv
    rw [hrow] at hv2
    injection hv2 with hv2
    have g1 := jn_get hd
    have g2 := jn_get hm
    have g3 := spD_get hms
    refine ⟨v, [0], by simp, ⟨p, rfl, z, hz2, v0, v1⟩, [o0, o1, some (T (jn tr)), o3, o4, some (.d (.tup (spD sp))), some (Dn.L (jn ms)), o7, o8, o9, some (N p)], [o0, o1, some (T (jn tr)), o3, o4, some (.d (.tup (spD sp))), some (Dn.L (jn ms)), o7, o8, o9, some (N p)], rfl, ?_, rfl⟩
    generalize jn tr = TJ at *
    generalize jn ms = MJ at *
    generalize spD sp = SD at *
    simp [↓g1, ↓g2, ↓g3, p2_0, ↓hv])
  refine ⟨rs, ?_, h3⟩
  rw [show rgD 0 tr.length = _ from rz] at h2
  exact FA.rng (xs := pk zs tr) (by simp [pk]) h2
end
end K24
end
section
set_option Elab.async false
set_option linter.all false
set_option maxRecDepth 100000
set_option maxHeartbeats 4000000
namespace K24
open PySem PySem.Spec L2 L2H Dn K24M
open PyProof.Rows hiding St
theorem e_view {zs : List Int} {sp : Sp} {tr : List Nat} (hL : Lf zs sp) (ht : To zs tr) {ns : List Int} (hn : ns ≠ []) : ∃ vs ns', ns' ≠ [] ∧ RowOk (pk zs tr) vs ∧ D__law_view [Po ns, lfO zs sp, T (jn tr)] = .ok (T vs) [some (Po ns'), some (lfO zs sp), some (T (jn tr))] := by
  obtain ⟨kd, ns1, n1, k0, k1, e1⟩ := e_take hn (many := 4) (by decide)
  have jl := jn_len tr
  have t1 := ht.t1
  have t5 := ht.t5
  have c3 : (tr.length : Int) < 4611686018427387904 := by omega
  by_cases q3 : kd = 3
  · subst q3
    obtain ⟨vs, ns2, n2, hv, e2⟩ := v3_comp hL ht n1 (some (lfO zs sp)) (some (N 3)) (some (.d (.tup (spD sp)))) none none none none
    refine ⟨vs, ns2, n2, hv, ?_⟩
    generalize jn tr = TJ at *
    simp [D__law_view, m__law_view, e1, e2]
  · obtain ⟨ms, ns2, n2, ml, mb, e2⟩ := vm_comp hL ht n1 (some (lfO zs sp)) (some (N kd)) (some (T zs)) none none none none
    have so := sorted_L ms
    have sp2 := sortI_perm ms
    obtain ⟨mn, hmn, mnb⟩ := nats_of (n := sp.length) (rs := sortI ms) (fun x m => mb x (sp2.mem_iff.mp m))
    have mnl : mn.length = tr.length := by
      have := sp2.length_eq
      rw [hmn, jn_len] at this
      omega
    rw [hmn] at so
    obtain ⟨vs, hv, e3⟩ := vv_comp hL ht mnl mnb (some (Po ns2)) (some (lfO zs sp)) (some (N kd)) (some (T zs)) none none none
    by_cases q2 : kd = 2
    · subst q2
      obtain ⟨p, ns3, n3, p0, p1, e4⟩ := e_take n2 (many := (tr.length : Int)) (by omega)
      obtain ⟨p, rfl⟩ := Int.eq_ofNat_of_zero_le p0
      obtain ⟨d, hd⟩ : ∃ d, tr[p]? = some d := ⟨_, List.getElem?_eq_getElem (by omega)⟩
      obtain ⟨z, hz, hz2⟩ := pk_get ht.t hd
      have hb := hL.zb z (List.mem_of_getElem? hz)
      obtain ⟨v, hvp, v0, v1⟩ := RowOk_at hv hz2
      obtain ⟨u, ns4, n4, u0, u1, e5⟩ := e_take n3 (many := z - 1) (by omega)
      have z0 : 0 < z := by omega
      have vl := hv.len
      have pl : (pk zs tr).length = tr.length := by simp [pk]
      have ix : ixN vs.length (p : Int) = some p := by
        have := ixN_of (n := vs.length) (i := (p : Int)) (by omega) (by omega)
        simpa using this
      have g1 := jn_get hd
      refine ⟨vs.set p ((v + 1 + u) % z), ns4, n4, RowOk_set hv hz2 (Int.emod_nonneg _ (by omega)) (Int.emod_lt_of_pos _ (by omega)), ?_⟩
      generalize jn tr = TJ at *
      simp [D__law_view, m__law_view, e1, e2, so, jl, c3, e3, e4, hvp, ↓g1, hz, e5, z0, ix, set_L]
    · refine ⟨vs, ns2, n2, hv, ?_⟩
      generalize jn tr = TJ at *
      simp [D__law_view, m__law_view, e1, q3, q2, e2, so, jl, c3, e3]
end K24
end
section
set_option Elab.async false
set_option linter.all false
set_option maxRecDepth 100000
set_option maxHeartbeats 4000000
namespace K24
open PySem PySem.Spec L2 L2H Dn K24M
open PyProof.Rows hiding St
abbrev pairD (A B : List Nat) : D := .tup [.tup (I (jn A)), .tup (I (jn B))]
/-- a row of moments -/
structure Mo (n k : Nat) (A : List Nat) : Prop where
  len : A.length = k
  lt : ∀ a ∈ A, a < n
section
variable {zs : List Int} {sp : Sp} {tr : List Nat} {vs : List Int}
theorem fl_comp (s1 : 1 ≤ sp.length) {ns : List Int} (hn : ns ≠ []) (k : Nat) (hk : k ≤ 100) (o2 o3 o4 o5 o6 : Option O) : ∃ tr ns', ns' ≠ [] ∧ tr.length = k ∧ (∀ j ∈ tr, j < sp.length) ∧ compL [7] (gN 7) mYes (mCall D__law_take [.nm 0, .ex (mOp oLen [.ex (mOp oIx [.nm 1, .ex (mC (.int 1))])])]) (rgD 0 k) [some (Po ns), some (lfO zs sp), o2, o3, o4, o5, o6, none] [] = .ok ((I (jn tr)).map O.d) [some (Po ns'), some (lfO zs sp), o2, o3, o4, o5, o6, none] := by
  have l1 := lf1 zs sp
  have sl := spD_len sp
  obtain ⟨rs, ns', h1, h2, h3⟩ := comp_draws (vw := [7]) (g := gN 7) (m := mCall D__law_take [.nm 0, .ex (mOp oLen [.ex (mOp oIx [.nm 1, .ex (mC (.int 1))])])]) (fun ns => [some (Po ns), some (lfO zs sp), o2, o3, o4, o5, o6, none]) (fun _ r => 0 ≤ r ∧ r < (sp.length : Int)) (rgD 0 k) ns [] hn (by rw [rgD_zero]; simp; omega) (fun x _ ns hn => by
    obtain ⟨r, ns1, n1, r0, r1, e⟩ := e_take hn (many := (sp.length : Int)) (by omega)
    refine ⟨r, ns1, n1, ⟨r0, r1⟩, [some (Po ns), some (lfO zs sp), o2, o3, o4, o5, o6, some (.d x)], [some (Po ns1), some (lfO zs sp), o2, o3, o4, o5, o6, some (.d x)], rfl, ?_, rfl⟩
    simp [l1, sl, e])
  obtain ⟨tr, rfl, ht⟩ := nats_of (n := sp.length) (h2.all (P := fun r => 0 ≤ r ∧ r < (sp.length : Int)) (fun _ _ q => q))
  exact ⟨tr, ns', h1, by have := h2.len; rw [jn_len, rgD_zero] at this; simpa using this, ht, h3⟩
theorem jn_app (a b : List Nat) : jn (a ++ b) = jn a ++ jn b := List.map_append
theorem e_filled (h : Tv zs sp tr vs) {ns : List Int} (hn : ns ≠ []) : ∃ A B ns', ns' ≠ [] ∧ Mo sp.length tr.length A ∧ Mo sp.length tr.length B ∧ D__law_filled [Po ns, lfO zs sp, T (jn tr), T vs] = .ok (.d (pairD A B)) [some (Po ns'), some (lfO zs sp), some (T (jn tr)), some (T vs)] := by
  have l1 := lf1 zs sp
  have sl := spD_len sp
  have t8 := h.t8
  have s1 := h.lf.s1
  have e1 : D__law_fronts [lfO zs sp, T (jn tr), T vs, N 0, N sp.length] = .ok (Dn.L (jn (eg sp tr vs))) [some (lfO zs sp), some (T (jn tr)), some (T vs), some (N 0), some (N sp.length)] := e_fronts h.lf h.t h.vl h.t8 (lo := 0) (hi := sp.length) (Nat.zero_le _) (Nat.le_refl _)
  have e2 := e_turned h
  have le := h.eg_le
  have ll := h.lg_le
  obtain ⟨F, n1, m1, f1, f2, e3⟩ := fl_comp (zs := zs) s1 hn (tr.length - (eg sp tr vs).length) (by omega) (some (T (jn tr))) (some (T vs)) (some (Dn.L (jn (eg sp tr vs)))) none none
  obtain ⟨G, n2, m2, g1, g2, e4⟩ := fl_comp (zs := zs) s1 m1 (tr.length - (lg sp tr vs).length) (by omega) (some (T (jn tr))) (some (T vs)) (some (Dn.L (jn (lg sp tr vs)))) (some (Dn.L (jn (eg sp tr vs ++ F)))) none
  refine ⟨eg sp tr vs ++ F, (lg sp tr vs ++ G).reverse, n2, m2, ⟨by rw [List.length_append]; omega, fun a m => ?_⟩, ⟨by rw [List.length_reverse, List.length_append]; omega, fun a m => ?_⟩, ?_⟩
  · rcases List.mem_append.mp m with m | m
    · exact eg_lt a m
    · exact f2 a m
  · rcases List.mem_append.mp (List.mem_reverse.mp m) with m | m
    · exact lg_lt a m
    · exact g2 a m
  · have rv := rv_L (jn (lg sp tr vs ++ G))
    rw [jn_rev] at rv
    have ge := jn_len (eg sp tr vs)
    have gl := jn_len (lg sp tr vs)
    have gt := jn_len tr
    have c1 : (-4611686018427387904 : Int) ≤ (tr.length : Int) - (eg sp tr vs).length ∧ (tr.length : Int) - (eg sp tr vs).length < 4611686018427387904 := by omega
    have c2 : (-4611686018427387904 : Int) ≤ (tr.length : Int) - (lg sp tr vs).length ∧ (tr.length : Int) - (lg sp tr vs).length < 4611686018427387904 := by omega
    have k1 : ((tr.length : Int) - (eg sp tr vs).length).toNat = tr.length - (eg sp tr vs).length := by omega
    have k2 : ((tr.length : Int) - (lg sp tr vs).length).toNat = tr.length - (lg sp tr vs).length := by omega
    have al : (jn (eg sp tr vs ++ F)).length = tr.length := by rw [jn_len, List.length_append]; omega
    have bl : (jn (lg sp tr vs ++ G).reverse).length = tr.length := by rw [jn_len, List.length_reverse, List.length_append]; omega
    have fl : (jn F).length = F.length := jn_len F
    have gll : (jn G).length = G.length := jn_len G
    have a1 := jn_app (eg sp tr vs) F
    have a2 := jn_app (lg sp tr vs) G
    have li : (eg sp tr vs).length + F.length ≤ 16777216 := by omega
    have li2 : (lg sp tr vs).length + G.length ≤ 16777216 := by omega
    unfold pairD
    rw [a1] at e4 al ⊢
    rw [a2] at rv
    generalize jn (lg sp tr vs ++ G).reverse = RV at *
    generalize (eg sp tr vs) = E at *
    generalize (lg sp tr vs) = Lg at *
    generalize jn F = FJ at *
    generalize jn G = GJ at *
    generalize jn E = EJ at *
    generalize jn Lg = LJ at *
    generalize jn tr = TJ at *
    simp [D__law_filled, m__law_filled, l1, sl, e1, e2, ge, gl, gt, c1, c2, k1, k2, e3, e4, rv, fl, gll, li, li2]
end
end K24
end
section
set_option Elab.async false
set_option linter.all false
set_option maxRecDepth 100000
set_option maxHeartbeats 4000000
namespace K24
open PySem PySem.Spec L2 L2H Dn K24M
open PyProof.Rows hiding St
/-- a number or a truth value -/
def IB (d : D) : Prop := (∃ i, d = .int i) ∨ ∃ b, d = .bl b
theorem oPlusB_tt {a b : List D} (h : a.length + b.length ≤ 100000) : oPlusB [.d (.tup a), .d (.tup b)] = some (.d (.tup (a ++ b))) := oPlusB_of (by rw [oPlus_tt, if_pos (by unfold line; omega)])
theorem at3_0 (a b c : D) : atO (.l [.d a, .d b, .d c]) (0 : Int) = some a := rfl
theorem at3_1 (a b c : D) : atO (.l [.d a, .d b, .d c]) (1 : Int) = some b := rfl
theorem at3_2 (a b c : D) : atO (.l [.d a, .d b, .d c]) (2 : Int) = some c := rfl
theorem cut_mem {ds : List D} {lo hi : Option Int} : ∀ d ∈ Dn.cutD ds lo hi, d ∈ ds := fun d m => List.mem_of_mem_drop (List.mem_of_mem_take m)
theorem cut_len {ds : List D} {lo hi : Option Int} : (Dn.cutD ds lo hi).length ≤ ds.length := by
  unfold Dn.cutD
  rw [List.length_take, List.length_drop]
  omega
/-- what bending can give -/
def Be (n : Nat) (o : O) : Prop := (∃ ds, o = .l (List.map O.d ds)) ∨ ∃ ds, o = .d (.tup ds) ∧ ds.length ≤ n ∧ ∀ d ∈ ds, IB d
theorem be_cut {ds : List D} (hd : ∀ d ∈ ds, IB d) {p : Int} {x : D} (hx : IB x) : Be (2 * ds.length + 1) (.d (.tup (Dn.cutD ds none (some p) ++ [x] ++ Dn.cutD ds (some (p + 1)) none))) := by
  refine .inr ⟨_, rfl, ?_, fun d m => ?_⟩
  · have a := cut_len (ds := ds) (lo := none) (hi := some p)
    have b := cut_len (ds := ds) (lo := some (p + 1)) (hi := none)
    rw [List.length_append, List.length_append, List.length_singleton]
    omega
  · rcases List.mem_append.mp m with m | m
    · rcases List.mem_append.mp m with m | m
      · exact hd d (cut_mem d m)
      · rw [List.mem_singleton] at m
        exact m ▸ hx
    · exact hd d (cut_mem d m)
theorem e_bent {zs : List Int} {sp : Sp} (hL : Lf zs sp) {ds : List D} (hd : ∀ d ∈ ds, IB d) (h1 : 1 ≤ ds.length) (hl : ds.length ≤ 1000) {ns : List Int} (hn : ns ≠ []) : ∃ o ns', ns' ≠ [] ∧ Be (2 * ds.length + 1) o ∧ D__law_bent [Po ns, lfO zs sp, .d (.tup ds)] = .ok o [some (Po ns'), some (lfO zs sp), some (.d (.tup ds))] := by
  obtain ⟨p, ns1, n1, p0, p1, e1⟩ := e_take hn (many := (ds.length : Int)) (by omega)
  obtain ⟨p, rfl⟩ := Int.eq_ofNat_of_zero_le p0
  obtain ⟨kd, ns2, n2, k0, k1, e2⟩ := e_take n1 (many := 10) (by decide)
  have s1 := hL.s1
  have s61 := hL.s61
  have m0 : (0 : Int) < sp.length := by omega
  obtain ⟨u, ns3, n3, u0, u1, e3⟩ := e_take n2 (many := (sp.length : Int)) m0
  have l1 := lf1 zs sp
  have sl := spD_len sp
  obtain ⟨x, hx⟩ : ∃ x, ds[p]? = some x := ⟨_, List.getElem?_eq_getElem (by omega)⟩
  have xi := hd x (List.mem_of_getElem? hx)
  have bc := fun (y : D) (hy : IB y) => be_cut hd (p := (p : Int)) hy
  have ca := cut_len (ds := ds) (lo := none) (hi := some (p : Int))
  have cb := cut_len (ds := ds) (lo := some ((p : Int) + 1)) (hi := none)
  have p1' := fun (y : D) => oPlusB_tt (a := Dn.cutD ds none (some (p : Int))) (b := [y]) (by rw [List.length_singleton]; omega)
  have p2' := fun (y : D) => oPlusB_tt (a := Dn.cutD ds none (some (p : Int)) ++ [y]) (b := Dn.cutD ds (some ((p : Int) + 1)) none) (by rw [List.length_append, List.length_singleton]; omega)
  obtain rfl | rfl | rfl | q3 : kd = 0 ∨ kd = 1 ∨ kd = 2 ∨ 2 < kd := by omega
  · exact ⟨_, ns2, n2, .inl ⟨ds, rfl⟩, by simp [D__law_bent, m__law_bent, e1, e2, l1, sl]⟩
  · refine ⟨.d (.tup (Dn.cutD ds none (some (-1)))), ns2, n2, .inr ⟨_, rfl, ?_, fun d m => hd d (cut_mem d m)⟩, by simp [D__law_bent, m__law_bent, e1, e2, l1, sl]⟩
    have := cut_len (ds := ds) (lo := none) (hi := some (-1))
    omega
  · have cc := cut_len (ds := ds) (lo := some (-1)) (hi := none)
    have p3 := oPlusB_tt (a := ds) (b := Dn.cutD ds (some (-1)) none) (by omega)
    refine ⟨.d (.tup (ds ++ Dn.cutD ds (some (-1)) none)), ns2, n2, .inr ⟨_, rfl, by rw [List.length_append]; omega, fun d m => ?_⟩, by simp [D__law_bent, m__law_bent, e1, e2, l1, sl, p3]⟩
    rcases List.mem_append.mp m with m | m
    · exact hd d m
    · exact hd d (cut_mem d m)
  · have i3 : kd = 3 ∨ kd = 4 ∨ kd = 5 ∨ kd = 6 ∨ kd = 7 ∨ kd = 8 ∨ kd = 9 := by omega
    obtain ⟨C1, hC1⟩ : ∃ C, C = Dn.cutD ds none (some (p : Int)) := ⟨_, rfl⟩
    obtain ⟨C2, hC2⟩ : ∃ C, C = Dn.cutD ds (some ((p : Int) + 1)) none := ⟨_, rfl⟩
    simp only [← hC1, ← hC2] at p1' p2' bc
    have m1 : 0 < sp.length := s1
    simp only [List.append_assoc] at p2' bc
    rcases xi with ⟨i, rfl⟩ | ⟨b, rfl⟩
    · rcases i3 with rfl | rfl | rfl | rfl | rfl | rfl | rfl
      · exact ⟨_, ns2, n2, bc (.bl (i != 0)) (.inr ⟨_, rfl⟩), by simp [D__law_bent, m__law_bent, e1, e2, l1, sl, hx, at3_0, ← hC1, ← hC2, p1', p2']⟩
      · exact ⟨_, ns2, n2, bc (.int (-1)) (.inl ⟨_, rfl⟩), by simp [D__law_bent, m__law_bent, e1, e2, l1, sl, hx, at3_1, ← hC1, ← hC2, p1', p2']⟩
      · exact ⟨_, ns2, n2, bc (.int sp.length) (.inl ⟨_, rfl⟩), by simp [D__law_bent, m__law_bent, e1, e2, l1, sl, hx, at3_2, ← hC1, ← hC2, p1', p2']⟩
      · exact ⟨_, ns3, n3, bc (.int ((i + 1) % sp.length)) (.inl ⟨_, rfl⟩), by simp [D__law_bent, m__law_bent, e1, e2, e3, l1, sl, hx, at3_0, ← hC1, ← hC2, p1', p2', m0, m1]⟩
      · exact ⟨_, ns3, n3, bc (.int ((i + (sp.length - 1)) % sp.length)) (.inl ⟨_, rfl⟩), by simp [D__law_bent, m__law_bent, e1, e2, e3, l1, sl, hx, at3_1, ← hC1, ← hC2, p1', p2', m0, m1]⟩
      · exact ⟨_, ns3, n3, bc (.int ((i + u) % sp.length)) (.inl ⟨_, rfl⟩), by simp [D__law_bent, m__law_bent, e1, e2, e3, l1, sl, hx, at3_2, ← hC1, ← hC2, p1', p2', m0, m1]⟩
      · exact ⟨_, ns3, n3, bc (.int ((i + 1) % sp.length)) (.inl ⟨_, rfl⟩), by simp [D__law_bent, m__law_bent, e1, e2, e3, l1, sl, hx, at3_0, ← hC1, ← hC2, p1', p2', m0, m1]⟩
    · rcases i3 with rfl | rfl | rfl | rfl | rfl | rfl | rfl
      · exact ⟨_, ns2, n2, bc (.bl b) (.inr ⟨_, rfl⟩), by simp [D__law_bent, m__law_bent, e1, e2, l1, sl, hx, at3_0, ← hC1, ← hC2, p1', p2']⟩
      · exact ⟨_, ns2, n2, bc (.int (-1)) (.inl ⟨_, rfl⟩), by simp [D__law_bent, m__law_bent, e1, e2, l1, sl, hx, at3_1, ← hC1, ← hC2, p1', p2']⟩
      · exact ⟨_, ns2, n2, bc (.int sp.length) (.inl ⟨_, rfl⟩), by simp [D__law_bent, m__law_bent, e1, e2, l1, sl, hx, at3_2, ← hC1, ← hC2, p1', p2']⟩
      · exact ⟨_, ns3, n3, bc (.int (((if b = true then (1 : Int) else 0) + 1) % sp.length)) (.inl ⟨_, rfl⟩), by simp [D__law_bent, m__law_bent, e1, e2, e3, l1, sl, hx, at3_0, ← hC1, ← hC2, p1', p2', m0, m1]⟩
      · exact ⟨_, ns3, n3, bc (.int (((if b = true then (1 : Int) else 0) + (sp.length - 1)) % sp.length)) (.inl ⟨_, rfl⟩), by simp [D__law_bent, m__law_bent, e1, e2, e3, l1, sl, hx, at3_1, ← hC1, ← hC2, p1', p2', m0, m1]⟩
      · exact ⟨_, ns3, n3, bc (.int (((if b = true then (1 : Int) else 0) + u) % sp.length)) (.inl ⟨_, rfl⟩), by simp [D__law_bent, m__law_bent, e1, e2, e3, l1, sl, hx, at3_2, ← hC1, ← hC2, p1', p2', m0, m1]⟩
      · exact ⟨_, ns3, n3, bc (.int (((if b = true then (1 : Int) else 0) + 1) % sp.length)) (.inl ⟨_, rfl⟩), by simp [D__law_bent, m__law_bent, e1, e2, e3, l1, sl, hx, at3_0, ← hC1, ← hC2, p1', p2', m0, m1]⟩
end K24
end
section
set_option Elab.async false
set_option linter.all false
set_option maxRecDepth 100000
set_option maxHeartbeats 4000000
namespace K24
open PySem PySem.Spec L2 L2H Dn K24M
open PyProof.Rows hiding St
def bTl : MS := mIf (mTOr (mB (mOp oGt [.nm 4, .ex (mC (.int 5))])) (mB (mOp (oEq false) [.nm 4, .ex (mC (.int 4))]))) (mSeq (mSet 6 (mCall D__law_bent [.nm 0, .nm 1, .nm 6]))
  (mIf (mTAnd (mB (mOp oGt [.nm 4, .ex (mC (.int 7))])) (mTAnd (mB (mOp (oIsi "tuple") [.nm 6])) (mB (mOp oGt [.ex (mOp oLen [.nm 6]), .ex (mC (.int 0))])))) (mSet 6 (mCall D__law_bent [.nm 0, .nm 1, .nm 6])) (mPass))) (mPass)
def bTe : MS := mIf (mTOr (mB (mOp (oEq false) [.nm 4, .ex (mC (.int 4))])) (mB (mOp (oEq false) [.nm 4, .ex (mC (.int 5))]))) (mSeq (mSet 5 (mCall D__law_bent [.nm 0, .nm 1, .nm 5]))
  (mIf (mTAnd (mB (mOp (oEq false) [.ex (mCall D__law_take [.nm 0, .ex (mC (.int 2))]), .ex (mC (.int 0))])) (mTAnd (mB (mOp (oIsi "tuple") [.nm 5])) (mB (mOp oGt [.ex (mOp oLen [.nm 5]), .ex (mC (.int 0))])))) (mSet 5 (mCall D__law_bent [.nm 0, .nm 1, .nm 5])) (mPass))) (mPass)
theorem Be.mono {n m : Nat} {o : O} (h : Be n o) (l : n ≤ m) : Be m o := by
  rcases h with h | ⟨ds, e, h1, h2⟩
  · exact .inl h
  · exact .inr ⟨ds, e, by omega, h2⟩
theorem jn_IB (A : List Nat) : ∀ d ∈ I (jn A), IB d := fun d m => by
  obtain ⟨i, _, rfl⟩ := I_mem m
  exact .inl ⟨i, rfl⟩
theorem be_jn {A : List Nat} {k n : Nat} (h : Mo n k A) (k8 : k ≤ 8) : Be 1000 (.d (.tup (I (jn A)))) := .inr ⟨_, rfl, by have := h.len; simp; omega, jn_IB A⟩
section
variable {zs : List Int} {sp : Sp}
theorem e_tl (hL : Lf zs sp) {B : List Nat} {k : Nat} (hB : Mo sp.length k B) (k1 : 1 ≤ k) (k8 : k ≤ 8) {ns : List Int} (hn : ns ≠ []) (o2 o3 o5 : Option O) (kd : Int) : ∃ o ns', ns' ≠ [] ∧ Be 1000 o ∧ bTl [some (Po ns), some (lfO zs sp), o2, o3, some (N kd), o5, some (.d (.tup (I (jn B))))] = .nx [some (Po ns'), some (lfO zs sp), o2, o3, some (N kd), o5, some o] := by
  have bl := hB.len
  have be := be_jn hB k8
  obtain ⟨o, ns1, n1, b1, e1⟩ := e_bent hL (ds := I (jn B)) (jn_IB B) (by simp; omega) (by simp; omega) hn
  have il : (I (jn B)).length = k := by simp; omega
  rw [il] at b1
  have go : ∀ (q : 5 < kd ∨ kd = 4), ∃ o ns', ns' ≠ [] ∧ Be 1000 o ∧ bTl [some (Po ns), some (lfO zs sp), o2, o3, some (N kd), o5, some (.d (.tup (I (jn B))))] = .nx [some (Po ns'), some (lfO zs sp), o2, o3, some (N kd), o5, some o] := by
    intro q
    by_cases q7 : 7 < kd
    · have q5 : 5 < kd := by omega
      rcases b1 with ⟨ds, rfl⟩ | ⟨ds, rfl, l, hd⟩
      · refine ⟨_, ns1, n1, .inl ⟨ds, rfl⟩, ?_⟩
        generalize jn B = BJ at *
        simp [bTl, q5, q7, e1, tyN]
      · by_cases z : 0 < ds.length
        · obtain ⟨o', ns2, n2, b2, e2⟩ := e_bent hL (ds := ds) hd z (by omega) n1
          have z2 : (0 : Int) < ds.length := by omega
          refine ⟨o', ns2, n2, b2.mono (by omega), ?_⟩
          generalize jn B = BJ at *
          simp [bTl, q5, q7, e1, tyN, z, z2, e2]
        · have z2 : ¬ (0 : Int) < ds.length := by omega
          have z3 : ds = [] := List.eq_nil_of_length_eq_zero (by omega)
          subst z3
          refine ⟨_, ns1, n1, .inr ⟨[], rfl, by omega, hd⟩, ?_⟩
          generalize jn B = BJ at *
          simp [bTl, q5, q7, e1, tyN]
    · refine ⟨o, ns1, n1, b1.mono (by omega), ?_⟩
      generalize jn B = BJ at *
      rcases q with q | rfl
      · simp [bTl, q, q7, e1]
      · simp [bTl, e1]
  by_cases q : 5 < kd
  · exact go (.inl q)
  · by_cases q4 : kd = 4
    · exact go (.inr q4)
    · exact ⟨_, ns, hn, be, by simp [bTl, q, q4]⟩
theorem e_te (hL : Lf zs sp) {B : List Nat} {k : Nat} (hB : Mo sp.length k B) (k1 : 1 ≤ k) (k8 : k ≤ 8) {ns : List Int} (hn : ns ≠ []) (o2 o3 o6 : Option O) (kd : Int) : ∃ o ns', ns' ≠ [] ∧ Be 1000 o ∧ bTe [some (Po ns), some (lfO zs sp), o2, o3, some (N kd), some (.d (.tup (I (jn B)))), o6] = .nx [some (Po ns'), some (lfO zs sp), o2, o3, some (N kd), some o, o6] := by
  have bl := hB.len
  have be := be_jn hB k8
  obtain ⟨o, ns1, n1, b1, e1⟩ := e_bent hL (ds := I (jn B)) (jn_IB B) (by simp; omega) (by simp; omega) hn
  obtain ⟨t, ns2, n2, t0, t1, e2⟩ := e_take n1 (many := 2) (by decide)
  have il : (I (jn B)).length = k := by simp; omega
  rw [il] at b1
  have go : ∀ (q : kd = 4 ∨ kd = 5), ∃ o ns', ns' ≠ [] ∧ Be 1000 o ∧ bTe [some (Po ns), some (lfO zs sp), o2, o3, some (N kd), some (.d (.tup (I (jn B)))), o6] = .nx [some (Po ns'), some (lfO zs sp), o2, o3, some (N kd), some o, o6] := by
    intro q
    by_cases qt : t = 0
    · subst qt
      rcases b1 with ⟨ds, rfl⟩ | ⟨ds, rfl, l, hd⟩
      · refine ⟨_, ns2, n2, .inl ⟨ds, rfl⟩, ?_⟩
        generalize jn B = BJ at *
        rcases q with rfl | rfl <;> simp [bTe, e1, e2, tyN]
      · by_cases z : 0 < ds.length
        · obtain ⟨o', ns3, n3, b2, e3⟩ := e_bent hL (ds := ds) hd z (by omega) n2
          have z2 : (0 : Int) < ds.length := by omega
          refine ⟨o', ns3, n3, b2.mono (by omega), ?_⟩
          generalize jn B = BJ at *
          rcases q with rfl | rfl <;> simp [bTe, e1, e2, tyN, z, z2, e3]
        · have z3 : ds = [] := List.eq_nil_of_length_eq_zero (by omega)
          subst z3
          refine ⟨_, ns2, n2, .inr ⟨[], rfl, by omega, hd⟩, ?_⟩
          generalize jn B = BJ at *
          rcases q with rfl | rfl <;> simp [bTe, e1, e2, tyN]
    · refine ⟨o, ns2, n2, b1.mono (by omega), ?_⟩
      generalize jn B = BJ at *
      rcases q with rfl | rfl <;> simp [bTe, e1, e2, qt]
  by_cases q : kd = 4
  · exact go (.inl q)
  · by_cases q4 : kd = 5
    · exact go (.inr q4)
    · exact ⟨_, ns, hn, be, by simp [bTe, q, q4]⟩
end
end K24
end
section
set_option Elab.async false
set_option linter.all false
set_option maxRecDepth 100000
set_option maxHeartbeats 4000000
namespace K24
open PySem PySem.Spec L2 L2H Dn K24M
open PyProof.Rows hiding St
def mTh : MS :=
  mSeq (mSet 4 (mCall D__law_take [.nm 0, .ex (mC (.int 10))]))
  (mSeq (mUnp (mN 2) (gT [gN 5, gN 6]))
  (mSeq (mIf (mB (mOp (oEq false) [.nm 4, .ex (mC (.int 0))])) (mRet (mOp oIx [.ex (mAll oLst [.ex (mAll oTup [.ex (mN 5)]), .ex (mAll oTup [.ex (mN 5), .ex (mN 6), .ex (mN 6)]), .ex (mFz (mAll oLst [.ex (mN 5), .ex (mN 6)])), .ex (mC .non), .ex (mN 5), .ex (mC (.str "early"))]), .ex (mCall D__law_take [.nm 0, .ex (mC (.int 6))])])) (mPass))
  (mSeq (mIf (mB (mOp (oEq false) [.nm 4, .ex (mC (.int 1))])) (mRet (mAll oTup [.ex (mN 6), .ex (mN 5)])) (mPass))
  (mSeq (mIf (mB (mOp (oEq false) [.nm 4, .ex (mC (.int 2))])) (mRet (mMv 3)) (mPass))
  (mSeq (mIf (mB (mOp (oEq false) [.nm 4, .ex (mC (.int 3))])) (mRet (mAll oTup [.ex (mN 5), .ex (mOp oIx [.nm 3, .ex (mC (.int 1))])])) (mPass))
  (mSeq bTl
  (mSeq bTe
  (mRet (mAll oTup [.ex (mN 5), .ex (mN 6)])))))))))
theorem mTh_eq : D__law_thing = fnD [0, 1, 2, 3] 7 mTh := rfl
/-- what may be handed in -/
def ThOk (d : D) : Prop := ∀ a b, d = .tup [a, b] → Few a ∧ Few b
theorem few_jn {A : List Nat} {n k : Nat} (h : Mo n k A) (k8 : k ≤ 8) : Few (.tup (I (jn A))) := fun ds e => by
  cases e
  have := h.len
  rw [I_len, jn_len]
  omega
theorem th_pair {a b : D} (ha : Few a) (hb : Few b) : ThOk (.tup [a, b]) := fun x y e => by
  cases e
  exact ⟨ha, hb⟩
theorem few_int (i : Int) : Few (.int i) := fun _ e => nomatch e
theorem th_row (A : List Nat) : ThOk (.tup (I (jn A))) := fun x y e => by
  have e2 : I (jn A) = [x, y] := by injection e
  have h1 : x ∈ I (jn A) := by rw [e2]; simp
  have h2 : y ∈ I (jn A) := by rw [e2]; simp
  obtain ⟨i, _, rfl⟩ := I_mem h1
  obtain ⟨j, _, rfl⟩ := I_mem h2
  exact ⟨few_int i, few_int j⟩
theorem few_lst (ds : List D) : Few (.lst ds) := fun _ e => nomatch e
theorem few_tup {ds : List D} (h : ds.length ≤ 1000) : Few (.tup ds) := fun _ e => by cases e; exact h
theorem at6_0 (a b c d e f : D) : atO (.l [.d a, .d b, .d c, .d d, .d e, .d f]) (0 : Int) = some a := rfl
theorem at6_1 (a b c d e f : D) : atO (.l [.d a, .d b, .d c, .d d, .d e, .d f]) (1 : Int) = some b := rfl
theorem at6_2 (a b c d e f : D) : atO (.l [.d a, .d b, .d c, .d d, .d e, .d f]) (2 : Int) = some c := rfl
theorem at6_3 (a b c d e f : D) : atO (.l [.d a, .d b, .d c, .d d, .d e, .d f]) (3 : Int) = some d := rfl
theorem at6_4 (a b c d e f : D) : atO (.l [.d a, .d b, .d c, .d d, .d e, .d f]) (4 : Int) = some e := rfl
theorem at6_5 (a b c d e f : D) : atO (.l [.d a, .d b, .d c, .d d, .d e, .d f]) (5 : Int) = some f := rfl
section
variable {zs : List Int} {sp : Sp}
theorem e_thing (hL : Lf zs sp) {A B A' B' : List Nat} {k : Nat} (hA : Mo sp.length k A) (hB : Mo sp.length k B) (hA' : Mo sp.length k A') (hB' : Mo sp.length k B') (k1 : 1 ≤ k) (k8 : k ≤ 8) {ns : List Int} (hn : ns ≠ []) :
    ∃ d ns', ns' ≠ [] ∧ ThOk d ∧ D__law_thing [Po ns, lfO zs sp, .d (pairD A B), .d (pairD A' B')] = .ok (.d d) [some (Po ns'), some (lfO zs sp), some (.d (pairD A B)), some (.d (pairD A' B'))] := by
  obtain ⟨kd, ns1, n1, q0, q1, e1⟩ := e_take hn (many := 10) (by decide)
  have fA := few_jn hA k8
  have fB := few_jn hB k8
  have tr := th_row A
  rw [mTh_eq]
  by_cases c0 : kd = 0
  · subst c0
    obtain ⟨u, ns2, n2, u0, u1, e2⟩ := e_take n1 (many := 6) (by decide)
    obtain rfl | rfl | rfl | rfl | rfl | rfl : u = 0 ∨ u = 1 ∨ u = 2 ∨ u = 3 ∨ u = 4 ∨ u = 5 := by omega
    · exact ⟨.tup [.tup (I (jn A))], ns2, n2, (fun a b e => by injection e with e; simp at e), by
        simp [mTh, e1, e2, at6_0]⟩
    · exact ⟨.tup [.tup (I (jn A)), .tup (I (jn B)), .tup (I (jn B))], ns2, n2, (fun a b e => by injection e with e; simp at e), by
        simp [mTh, e1, e2, at6_1]⟩
    · exact ⟨.lst [.tup (I (jn A)), .tup (I (jn B))], ns2, n2, (fun a b e => nomatch e), by
        simp [mTh, e1, e2, at6_2]⟩
    · exact ⟨.non, ns2, n2, (fun a b e => nomatch e), by
        simp [mTh, e1, e2, at6_3]⟩
    · exact ⟨.tup (I (jn A)), ns2, n2, tr, by
        simp [mTh, e1, e2, at6_4]⟩
    · exact ⟨.str "early", ns2, n2, (fun a b e => nomatch e), by
        simp [mTh, e1, e2, at6_5]⟩
  · by_cases c1 : kd = 1
    · subst c1
      exact ⟨.tup [.tup (I (jn B)), .tup (I (jn A))], ns1, n1, th_pair fB fA, by
        simp [mTh, e1]⟩
    · by_cases c2 : kd = 2
      · subst c2
        exact ⟨pairD A' B', ns1, n1, th_pair (few_jn hA' k8) (few_jn hB' k8), by
          simp [mTh, e1]⟩
      · by_cases c3 : kd = 3
        · subst c3
          exact ⟨.tup [.tup (I (jn A)), .tup (I (jn B'))], ns1, n1, th_pair fA (few_jn hB' k8), by
            simp [mTh, e1, p2_1]⟩
        · obtain ⟨o6, ns2, n2, b6, e2⟩ := e_tl hL hB k1 k8 n1 (some (.d (pairD A B))) (some (.d (pairD A' B'))) (some (.d (.tup (I (jn A))))) kd
          obtain ⟨o5, ns3, n3, b5, e3⟩ := e_te hL hA k1 k8 n2 (some (.d (pairD A B))) (some (.d (pairD A' B'))) (some o6) kd
          rcases b6 with ⟨d6, rfl⟩ | ⟨d6, rfl, l6, -⟩ <;> rcases b5 with ⟨d5, rfl⟩ | ⟨d5, rfl, l5, -⟩
          · exact ⟨.tup [.lst d5, .lst d6], ns3, n3, th_pair (few_lst _) (few_lst _), by
              simp [mTh, e1, c0, c1, c2, c3, e2, e3]⟩
          · exact ⟨.tup [.tup d5, .lst d6], ns3, n3, th_pair (few_tup l5) (few_lst _), by
              simp [mTh, e1, c0, c1, c2, c3, e2, e3]⟩
          · exact ⟨.tup [.lst d5, .tup d6], ns3, n3, th_pair (few_lst _) (few_tup l6), by
              simp [mTh, e1, c0, c1, c2, c3, e2, e3]⟩
          · exact ⟨.tup [.tup d5, .tup d6], ns3, n3, th_pair (few_tup l5) (few_tup l6), by
              simp [mTh, e1, c0, c1, c2, c3, e2, e3]⟩
end
end K24
end
section
set_option Elab.async false
set_option linter.all false
set_option maxRecDepth 100000
set_option maxHeartbeats 4000000
namespace K24
open PySem PySem.Spec L2 L2H Dn K24M
open PyProof.Rows hiding St
section
variable {zs : List Int} {sp : Sp} {tr : List Nat} {vs : List Int}
theorem thing_ok (h : Tv zs sp tr vs) {t : D} (ht : ThOk t) (nm : Bool) : ∃ o, D__law_asked [N 4, lfO zs sp, T (jn tr), T vs, .d t, .d (.bl nm)] = .ok o [some (N 4), some (lfO zs sp), some (T (jn tr)), some (T vs), some (.d t), some (.d (.bl nm))] ∧ D__law_paper [lfO zs sp, T (jn tr), T vs, .d t] = .ok o [some (lfO zs sp), some (T (jn tr)), some (T vs), some (.d t)] ∧ D__law_same 4 [o, o] = .ok tt [some o, some o] := by
  by_cases p : isPair t
  · obtain ⟨a, b, rfl⟩ := p
    obtain ⟨fa, fb⟩ := ht a b rfl
    cases ma : momB sp.length tr.length a with
    | false => exact ⟨_, a4_pa nm (l_early h fa ma), lw_early h ma, same_pa (by decide +kernel) _⟩
    | true =>
      obtain ⟨A, rfl, Al, An⟩ := momB_of ma
      cases mi : mis (eg sp tr vs) A with
      | some i => exact ⟨_, a4_pa nm (l_early_at h Al An mi), lw_early_at h Al An mi, same_pa (by decide +kernel) _⟩
      | none =>
        have el := h.eg_le
        have ea := mis_none mi (by omega)
        subst ea
        cases mb : momB sp.length tr.length b with
        | false => exact ⟨_, a4_pa nm (l_late h Al fb mb), lw_late h Al mb, same_pa (by decide +kernel) _⟩
        | true =>
          obtain ⟨B, rfl, Bl, Bn⟩ := momB_of mb
          cases mj : mis (lg sp tr vs) B.reverse with
          | some i => exact ⟨_, a4_pa nm (l_late_at h Al Bl Bn mj), lw_late_at h Al Bl Bn mj, same_pa (by decide +kernel) _⟩
          | none =>
            have ll := h.lg_le
            have eb := mis_none mj (by rw [List.length_reverse]; omega)
            have eb2 : B = (lg sp tr vs).reverse := by rw [eb, List.reverse_reverse]
            subst eb2
            obtain ⟨x, y, en⟩ := h.en Al
            exact ⟨_, a4_ok nm (l_good h Al en), lw_good h Al en, same_row 2 [stg sp y, stg sp x] (by simp)⟩
  · exact ⟨_, a4_pa nm (l_shape h p), lw_shape h p, same_pa (by decide +kernel) _⟩
/-- a told thing that is the due one -/
def Told (zs : List Int) (sp : Sp) (tr : List Nat) (vs : List Int) (nm : Bool) (i : Int) (d : D) : Prop := ∃ o, D__law_asked [N i, lfO zs sp, T (jn tr), T vs, .d .non, .d (.bl nm)] = .ok o [some (N i), some (lfO zs sp), some (T (jn tr)), some (T vs), some (.d .non), some (.d (.bl nm))] ∧ D__law_same 4 [o, .d d] = .ok tt [some o, some (.d d)]
theorem told_seen (h : Tv zs sp tr vs) (hc : (eg sp tr vs).length = tr.length) {x y : Nat} (en : En sp tr vs x y) (nm : Bool) : Told zs sp tr vs nm 0 (.tup (I (jn (eg sp tr vs)))) ∧ Told zs sp tr vs nm 1 (.tup (I (jn (lg sp tr vs).reverse))) ∧ Told zs sp tr vs nm 2 (spanD (stg sp y) (stg sp x)) ∧ Told zs sp tr vs nm 3 (pairD (eg sp tr vs) (lg sp tr vs).reverse) := by
  have hl := (seen_iff h).mp hc
  have t8 := h.t8
  have e1 : (jn (eg sp tr vs)).length ≤ 1000 := by rw [jn_len]; omega
  have e2 : (jn (lg sp tr vs).reverse).length ≤ 1000 := by rw [jn_len, List.length_reverse]; omega
  exact ⟨⟨_, a0_ok nm (e_early h hc), same_row 2 _ e1⟩, ⟨_, a1_ok nm (e_late h hl), same_row 2 _ e2⟩, ⟨_, a2_ok nm (e_span h hc en), same_span _ _⟩, ⟨_, a3_ok nm (e_paper h hc), same_two _ _ e1 e2⟩⟩
abbrev unD (k : Int) : D := .lst [.str "unseen", .int k]
theorem told_unseen (h : Tv zs sp tr vs) (hc : ¬ (eg sp tr vs).length = tr.length) (nm : Bool) : Told zs sp tr vs nm 0 (unD (eg sp tr vs).length) ∧ Told zs sp tr vs nm 1 (unD ((tr.length : Int) - 1 - (lg sp tr vs).length)) ∧ Told zs sp tr vs nm 2 (unD (eg sp tr vs).length) ∧ Told zs sp tr vs nm 3 (unD (eg sp tr vs).length) := by
  have hl : ¬ (lg sp tr vs).length = tr.length := fun z => hc ((seen_iff h).mpr z)
  have ll := h.lg_le
  have ek : ((tr.length - 1 - (lg sp tr vs).length : Nat) : Int) = (tr.length : Int) - 1 - (lg sp tr vs).length := by omega
  refine ⟨⟨_, a0_un nm (e_early_x h hc), same_un _⟩, ⟨_, a1_un nm (e_late_x h hl), ?_⟩, ⟨_, a2_un nm (e_span_x h hc), same_un _⟩, ⟨_, a3_un nm (e_paper_x h hc), same_un _⟩⟩
  rw [← ek]
  exact same_un _
def bDu : MS := mIf (mTNot (mB (mCall (D__law_same 4) [.ex (mCall D__law_asked [.nm 8, .nm 1, .nm 2, .nm 3, .ex (mC .non), .nm 7]), .ex (mOp oIx [.nm 6, .nm 8])]))) (mRet (mC (.bl false))) (mPass)
abbrev du4 (a b c d : D) : O := .l [.d a, .d b, .d c, .d d]
theorem du_0 (a b c d : D) : atO (du4 a b c d) (0 : Int) = some a := rfl
theorem du_1 (a b c d : D) : atO (du4 a b c d) (1 : Int) = some b := rfl
theorem du_2 (a b c d : D) : atO (du4 a b c d) (2 : Int) = some c := rfl
theorem du_3 (a b c d : D) : atO (du4 a b c d) (3 : Int) = some d := rfl
theorem rg4 : rgD 0 4 = [.int 0, .int 1, .int 2, .int 3] := rfl
theorem du_step {nm : Bool} {i : Int} {dd x : D} {du : O} (h : Told zs sp tr vs nm i x) (ha : atO du i = some x) (o0 o4 o5 o8 o9 o10 o11 o12 o13 : Option O) (its : List D) : forL (gN 8) bDu (.int i :: its) [o0, some (lfO zs sp), some (T (jn tr)), some (T vs), o4, o5, some du, some (.d (.bl nm)), o8, o9, o10, o11, o12, o13] = forL (gN 8) bDu its [o0, some (lfO zs sp), some (T (jn tr)), some (T vs), o4, o5, some du, some (.d (.bl nm)), some (N i), o9, o10, o11, o12, o13] := by
  obtain ⟨o, e1, e2⟩ := h
  generalize jn tr = TJ at *
  simp [forL_cons, bDu, e1, ha, e2]
theorem du_loop {nm : Bool} {a b c d : D} (h0 : Told zs sp tr vs nm 0 a) (h1 : Told zs sp tr vs nm 1 b) (h2 : Told zs sp tr vs nm 2 c) (h3 : Told zs sp tr vs nm 3 d) (o0 o4 o5 o8 o9 o10 o11 o12 o13 : Option O) : forL (gN 8) bDu (rgD 0 4) [o0, some (lfO zs sp), some (T (jn tr)), some (T vs), o4, o5, some (du4 a b c d), some (.d (.bl nm)), o8, o9, o10, o11, o12, o13] = .nx [o0, some (lfO zs sp), some (T (jn tr)), some (T vs), o4, o5, some (du4 a b c d), some (.d (.bl nm)), some (N 3), o9, o10, o11, o12, o13] := by
  rw [rg4, du_step h0 (du_0 a b c d), du_step h1 (du_1 a b c d), du_step h2 (du_2 a b c d), du_step h3 (du_3 a b c d)]
  · rfl
  all_goals exact .non
def bTg : MS := mIf (mTNot (mB (mCall (D__law_same 4) [.ex (mCall D__law_asked [.ex (mC (.int 4)), .nm 1, .nm 2, .nm 3, .nm 12, .nm 7]), .ex (mCall D__law_paper [.nm 1, .nm 2, .nm 3, .nm 12])]))) (mRet (mC (.bl false))) (mPass)
theorem tg_loop (h : Tv zs sp tr vs) (nm : Bool) (o0 o4 o5 o6 o8 o9 o10 o11 o13 : Option O) : ∀ (ds : List D) (o12 : Option O), (∀ d ∈ ds, ThOk d) → ∃ o12', forL (gN 12) bTg ds [o0, some (lfO zs sp), some (T (jn tr)), some (T vs), o4, o5, o6, some (.d (.bl nm)), o8, o9, o10, o11, o12, o13] = .nx [o0, some (lfO zs sp), some (T (jn tr)), some (T vs), o4, o5, o6, some (.d (.bl nm)), o8, o9, o10, o11, o12', o13]
  | [], o12, _ => ⟨o12, rfl⟩
  | d :: ds, o12, hd => by
    obtain ⟨o, e1, e2, e3⟩ := thing_ok h (hd d List.mem_cons_self) nm
    obtain ⟨o12', e⟩ := tg_loop h nm o0 o4 o5 o6 o8 o9 o10 o11 o13 ds (some (.d d)) (fun x m => hd x (List.mem_cons_of_mem _ m))
    refine ⟨o12', ?_⟩
    rw [← e]
    generalize jn tr = TJ at *
    simp [forL_cons, bTg, e1, e2, e3]
end
end K24
end
section
set_option Elab.async false
set_option linter.all false
set_option maxRecDepth 100000
set_option maxHeartbeats 4000000
namespace K24
open PySem PySem.Spec L2 L2H Dn K24M
open PyProof.Rows hiding St
def mVr : MS :=
  mSeq (mSet 4 (mCall D__law_early [.nm 1, .nm 2, .nm 3]))
  (mSeq (mSet 5 (mCall D__law_late [.nm 1, .nm 2, .nm 3]))
  (mSeq (mSet 6 (mAll oLst [.ex (mN 4), .ex (mN 5), .ex (mFz (mCall D__law_span [.nm 1, .nm 2, .nm 3])), .ex (mAll oTup [.ex (mN 4), .ex (mN 5)])]))
  (mSeq (mIf (mB (mOp (oIsi "list") [.nm 4])) (mPut 6 (mN 4) (.ex (mC (.int 3)))) (mPass))
  (mSeq (mSet 7 (mOp (oEq false) [.ex (mCall D__law_take [.nm 0, .ex (mC (.int 5))]), .ex (mC (.int 0))]))
  (mSeq (mFor (mRg [.ex (mC (.int 4))]) (gN 8) bDu)
  (mSeq (mSet 9 (mCall D__law_filled [.nm 0, .nm 1, .nm 2, .nm 3]))
  (mSeq (mSet 10 (mCall D__law_filled [.nm 0, .nm 1, .nm 2, .ex (mCall D__law_view [.nm 0, .nm 1, .nm 2])]))
  (mSeq (mSet 11 (mOp oPlus [.ex (mAll oLst [.ex (mN 9)]), .ex (mComp (mRg [.ex (mC (.int 5))]) [13] (gN 13) (mYes) (mCall D__law_thing [.nm 0, .nm 1, .nm 9, .nm 10]))]))
  (mSeq (mFor (mIt itS (mN 11)) (gN 12) bTg)
  (mRet (mC (.bl true))))))))))))
theorem mVr_eq : D__law_view_right = fnD [0, 1, 2, 3] 14 mVr := rfl
theorem comp_ds {vw : List Nat} {g : MG} {m : ME} (E : List Int → Dn.Env) (P : D → Prop) : ∀ (xs : List D) (ns : List Int) (acc : List O), ns ≠ [] → acc.length + xs.length ≤ 16000000 →
    (∀ x ∈ xs, ∀ ns, ns ≠ [] → ∃ r ns', ns' ≠ [] ∧ P r ∧ ∃ e1 e3, g (E ns) x = some e1 ∧ m e1 = .ok (.d r) e3 ∧ clr e3 vw = E ns') →
    ∃ (rs : List D) (ns' : List Int), ns' ≠ [] ∧ rs.length = xs.length ∧ (∀ r ∈ rs, P r) ∧ compL vw g mYes m xs (E ns) acc = .ok (acc ++ rs.map O.d) (E ns')
  | [], ns, acc, hn, _, _ => ⟨[], ns, hn, rfl, (fun _ m => nomatch m), by simp⟩
  | x :: xs, ns, acc, hn, hl, h => by
    rw [List.length_cons] at hl
    obtain ⟨r, ns1, hn1, q1, e1, e3, h1, h2, h3⟩ := h x List.mem_cons_self ns hn
    obtain ⟨rs, ns', hn', q2, q3, e⟩ := comp_ds E P xs ns1 (acc ++ [.d r]) hn1 (by rw [List.length_append, List.length_singleton]; omega) (fun y hy => h y (List.mem_cons_of_mem _ hy))
    refine ⟨r :: rs, ns', hn', congrArg (· + 1) q2, fun y m => ?_, ?_⟩
    · rcases List.mem_cons.mp m with rfl | m
      · exact q1
      · exact q3 y m
    rw [compL_cons]
    simp only [h1, compG_s, mYes_e, compC_t, h2, compI_ok]
    rw [if_pos (by omega), h3, e]
    simp
theorem plus_ds (p : D) (ds : List D) (h : ds.length ≤ 1000) : oPlus [.l [.d p], .l (ds.map O.d)] = some (.l ((p :: ds).map O.d)) := by
  have e1 : allD [O.d p] = some [p] := allD_map [p]
  have e2 := allD_map ds
  rw [oPlus_ll, e1, e2]
  simp only [List.length_singleton]
  rw [if_pos (by unfold line; omega)]
  rfl
section
variable {zs : List Int} {sp : Sp} {tr : List Nat} {vs : List Int}
theorem th_comp (hL : Lf zs sp) {A B A' B' : List Nat} {k : Nat} (hA : Mo sp.length k A) (hB : Mo sp.length k B) (hA' : Mo sp.length k A') (hB' : Mo sp.length k B') (k1 : 1 ≤ k) (k8 : k ≤ 8) {ns : List Int} (hn : ns ≠ []) (o2 o3 o4 o5 o6 o7 o8 o11 o12 : Option O) :
    ∃ (ds : List D) (ns' : List Int), ns' ≠ [] ∧ ds.length = 5 ∧ (∀ d ∈ ds, ThOk d) ∧ compL [13] (gN 13) mYes (mCall D__law_thing [.nm 0, .nm 1, .nm 9, .nm 10]) (rgD 0 5) [some (Po ns), some (lfO zs sp), o2, o3, o4, o5, o6, o7, o8, some (.d (pairD A B)), some (.d (pairD A' B')), o11, o12, none] [] = .ok (ds.map O.d) [some (Po ns'), some (lfO zs sp), o2, o3, o4, o5, o6, o7, o8, some (.d (pairD A B)), some (.d (pairD A' B')), o11, o12, none] := by
  obtain ⟨rs, ns', h1, h2, h3, h4⟩ := comp_ds (vw := [13]) (g := gN 13) (m := mCall D__law_thing [.nm 0, .nm 1, .nm 9, .nm 10]) (fun ns => [some (Po ns), some (lfO zs sp), o2, o3, o4, o5, o6, o7, o8, some (.d (pairD A B)), some (.d (pairD A' B')), o11, o12, none]) ThOk (rgD 0 5) ns [] hn (by rw [rgD_zero]; simp) (fun x _ ns hn => by
    obtain ⟨d, ns1, n1, r0, e⟩ := e_thing hL hA hB hA' hB' k1 k8 hn
    refine ⟨d, ns1, n1, r0, [some (Po ns), some (lfO zs sp), o2, o3, o4, o5, o6, o7, o8, some (.d (pairD A B)), some (.d (pairD A' B')), o11, o12, some (.d x)], [some (Po ns1), some (lfO zs sp), o2, o3, o4, o5, o6, o7, o8, some (.d (pairD A B)), some (.d (pairD A' B')), o11, o12, some (.d x)], rfl, ?_, rfl⟩
    simp [e])
  exact ⟨rs, ns', h1, by rw [h2, rgD_zero]; simp, h3, h4⟩
theorem e_view_right (hL : Lf zs sp) (hS : Sg sp) (ht : To zs tr) (hv : RowOk (pk zs tr) vs) {ns : List Int} (hn : ns ≠ []) : ∃ ns', ns' ≠ [] ∧ D__law_view_right [Po ns, lfO zs sp, T (jn tr), T vs] = .ok tt [some (Po ns'), some (lfO zs sp), some (T (jn tr)), some (T vs)] := by
  have h : Tv zs sp tr vs := ⟨hL, ht.t, ht.t1, by have := ht.t5; omega, hv⟩
  have t1 := h.t1
  have t8 := h.t8
  have e1 := e_law_early h
  have e2 := e_law_late h
  obtain ⟨u, ns1, n1, u0, u1, e4⟩ := e_take hn (many := 5) (by decide)
  obtain ⟨A, B, ns2, n2, hA, hB, e5⟩ := e_filled h n1
  obtain ⟨ws, ns3, n3, hw, e6⟩ := e_view hL ht n2
  have h' : Tv zs sp tr ws := ⟨hL, ht.t, ht.t1, by have := ht.t5; omega, hw⟩
  obtain ⟨A', B', ns4, n4, hA', hB', e7⟩ := e_filled h' n3
  rw [mVr_eq]
  by_cases hc : (eg sp tr vs).length = tr.length
  · have hl := (seen_iff h).mp hc
    obtain ⟨x, y, en⟩ := h.en hc
    have e3 := e_law_span h hS hc en
    unfold earlyO at e1
    unfold lateO at e2
    rw [if_pos hc] at e1
    rw [if_pos hl] at e2
    obtain ⟨t0, t1', t2, t3⟩ := told_seen h hc en (decide (u = 0))
    have dl := du_loop t0 t1' t2 t3 (some (Po ns1)) (some (T (jn (eg sp tr vs)))) (some (T (jn (lg sp tr vs).reverse))) none none none none none none
    obtain ⟨ds, ns5, n5, d5, dk, e8⟩ := th_comp hL hA hB hA' hB' t1 t8 n4 (some (T (jn tr))) (some (T vs)) (some (T (jn (eg sp tr vs)))) (some (T (jn (lg sp tr vs).reverse))) (some (du4 (.tup (I (jn (eg sp tr vs)))) (.tup (I (jn (lg sp tr vs).reverse))) (spanD (stg sp y) (stg sp x)) (pairD (eg sp tr vs) (lg sp tr vs).reverse))) (some (.d (.bl (decide (u = 0))))) (some (N 3)) none none
    have pl := plus_ds (pairD A B) ds (by omega)
    obtain ⟨w12, tl⟩ := tg_loop h (decide (u = 0)) (some (Po ns5)) (some (T (jn (eg sp tr vs)))) (some (T (jn (lg sp tr vs).reverse))) (some (du4 (.tup (I (jn (eg sp tr vs)))) (.tup (I (jn (lg sp tr vs).reverse))) (spanD (stg sp y) (stg sp x)) (pairD (eg sp tr vs) (lg sp tr vs).reverse))) (some (N 3)) (some (.d (pairD A B))) (some (.d (pairD A' B'))) (some (.d (.lst (pairD A B :: ds)))) none (pairD A B :: ds) none (fun d m => by
      rcases List.mem_cons.mp m with rfl | m
      · exact th_pair (few_jn hA t8) (few_jn hB t8)
      · exact dk d m)
    refine ⟨ns5, n5, ?_⟩
    simp [-List.map_reverse, mVr, e1, e2, e3, e4, tyN, dl, e5, e6, e7, e8, ↓pl, d5, tl]
  · have hl : ¬ (lg sp tr vs).length = tr.length := fun z => hc ((seen_iff h).mpr z)
    have e3 := e_law_span_x h hc
    unfold earlyO at e1
    unfold lateO at e2
    rw [if_neg hc] at e1
    rw [if_neg hl] at e2
    obtain ⟨t0, t1', t2, t3⟩ := told_unseen h hc (decide (u = 0))
    generalize (eg sp tr vs).length = k1 at *
    generalize ((tr.length : Int) - 1 - (lg sp tr vs).length) = k2 at *
    have dl := du_loop t0 t1' t2 t3 (some (Po ns1)) (some (.d (unD k1))) (some (.d (unD k2))) none none none none none none
    obtain ⟨ds, ns5, n5, d5, dk, e8⟩ := th_comp hL hA hB hA' hB' t1 t8 n4 (some (T (jn tr))) (some (T vs)) (some (.d (unD k1))) (some (.d (unD k2))) (some (du4 (unD k1) (unD k2) (unD k1) (unD k1))) (some (.d (.bl (decide (u = 0))))) (some (N 3)) none none
    have pl := plus_ds (pairD A B) ds (by omega)
    obtain ⟨w12, tl⟩ := tg_loop h (decide (u = 0)) (some (Po ns5)) (some (.d (unD k1))) (some (.d (unD k2))) (some (du4 (unD k1) (unD k2) (unD k1) (unD k1))) (some (N 3)) (some (.d (pairD A B))) (some (.d (pairD A' B'))) (some (.d (.lst (pairD A B :: ds)))) none (pairD A B :: ds) none (fun d m => by
      rcases List.mem_cons.mp m with rfl | m
      · exact th_pair (few_jn hA t8) (few_jn hB t8)
      · exact dk d m)
    refine ⟨ns5, n5, ?_⟩
    have ix : ixN 4 (3 : Int) = some 3 := rfl
    simp [mVr, e1, e2, e3, e4, tyN, ix, dl, e5, e6, e7, e8, ↓pl, d5, tl]
end
end K24
end
section
set_option Elab.async false
set_option linter.all false
set_option maxRecDepth 100000
set_option maxHeartbeats 4000000
namespace K24
open PySem PySem.Spec L2 L2H Dn K24M
open PyProof.Rows hiding St
def bRr : MS := mSeq (mIf (mTNot (mB (mCall (D__law_same 4) [.ex (mCall D__law_asked [.nm 12, .nm 1, .nm 9, .nm 3, .nm 11, .ex (mOp (oEq false) [.nm 12, .ex (mC (.int 1))])]), .ex (mAll oLst [.ex (mC (.str "refused")), .ex (mC (.str "tour")), .ex (mOp oNeg [.ex (mC (.int 1))])])]))) (mRet (mC (.bl false))) (mPass))
  (mSeq (mIf (mTNot (mB (mCall (D__law_same 4) [.ex (mCall D__law_asked [.nm 12, .nm 1, .nm 9, .nm 10, .ex (mC .non), .ex (mOp (oEq false) [.nm 12, .ex (mC (.int 2))])]), .ex (mAll oLst [.ex (mC (.str "refused")), .ex (mC (.str "tour")), .ex (mOp oNeg [.ex (mC (.int 1))])])]))) (mRet (mC (.bl false))) (mPass))
  (mIf (mTNot (mB (mCall (D__law_same 4) [.ex (mCall D__law_asked [.nm 12, .nm 1, .nm 2, .nm 10, .ex (mC .non), .ex (mOp (oEq false) [.nm 12, .ex (mC (.int 3))])]), .ex (mAll oLst [.ex (mC (.str "refused")), .ex (mC (.str "view")), .ex (mOp oNeg [.ex (mC (.int 1))])])]))) (mRet (mC (.bl false))) (mPass)))
section
variable {zs : List Int} {sp : Sp} {tr : List Nat} {vs : List Int}
theorem ask_re {d v th : D} {w : Str} (e : D_asked_looks [lfO zs sp, .d d, .d v] = .exc (refX w) [some (lfO zs sp), some (.d d), some (.d v)]) {i : Int} (i0 : 0 ≤ i) (i5 : i < 5) (nm : Bool) : D__law_asked [N i, lfO zs sp, .d d, .d v, .d th, .d (.bl nm)] = .ok (reO w) [some (N i), some (lfO zs sp), some (.d d), some (.d v), some (.d th), some (.d (.bl nm))] := by
  obtain rfl | rfl | rfl | rfl | rfl : i = 0 ∨ i = 1 ∨ i = 2 ∨ i = 3 ∨ i = 4 := by omega
  · exact a0_re nm (x_early e)
  · exact a1_re nm (x_late e)
  · exact a2_re nm (x_span e)
  · exact a3_re nm (x_paper e)
  · exact a4_re nm (x_lets th e)
theorem sr_tour : D__law_same 4 [reO "tour", reO "tour"] = .ok tt [some (reO "tour"), some (reO "tour")] := same_re (by decide +kernel)
theorem sr_view : D__law_same 4 [reO "view", reO "view"] = .ok tt [some (reO "view"), some (reO "view")] := same_re (by decide +kernel)
theorem rr_step {bad oth pa : D} (e1 : ∀ v : D, D_asked_looks [lfO zs sp, .d bad, .d v] = .exc (refX "tour") [some (lfO zs sp), some (.d bad), some (.d v)]) (e2 : D_asked_looks [lfO zs sp, T (jn tr), .d oth] = .exc (refX "view") [some (lfO zs sp), some (T (jn tr)), some (.d oth)]) {i : Int} (i0 : 0 ≤ i) (i5 : i < 5) (o0 o4 o5 o6 o7 o8 o12 : Option O) (its : List D) : forL (gN 12) bRr (.int i :: its) [o0, some (lfO zs sp), some (T (jn tr)), some (T vs), o4, o5, o6, o7, o8, some (.d bad), some (.d oth), some (.d pa), o12] = forL (gN 12) bRr its [o0, some (lfO zs sp), some (T (jn tr)), some (T vs), o4, o5, o6, o7, o8, some (.d bad), some (.d oth), some (.d pa), some (N i)] := by
  have a1 := ask_re (th := pa) (e1 (.tup (I vs))) i0 i5 (decide (i = 1))
  have a2 := ask_re (th := .non) (e1 oth) i0 i5 (decide (i = 2))
  have a3 := ask_re (th := .non) e2 i0 i5 (decide (i = 3))
  have s1 := sr_tour
  have s2 := sr_view
  unfold reO at a1 a2 a3 s1 s2
  generalize jn tr = TJ at *
  simp [forL_cons, bRr, a1, a2, a3, s1, s2]
theorem rg5 : rgD 0 5 = [.int 0, .int 1, .int 2, .int 3, .int 4] := rfl
theorem rr_loop {bad oth pa : D} (e1 : ∀ v : D, D_asked_looks [lfO zs sp, .d bad, .d v] = .exc (refX "tour") [some (lfO zs sp), some (.d bad), some (.d v)]) (e2 : D_asked_looks [lfO zs sp, T (jn tr), .d oth] = .exc (refX "view") [some (lfO zs sp), some (T (jn tr)), some (.d oth)]) (o0 o4 o5 o6 o7 o8 o12 : Option O) : forL (gN 12) bRr (rgD 0 5) [o0, some (lfO zs sp), some (T (jn tr)), some (T vs), o4, o5, o6, o7, o8, some (.d bad), some (.d oth), some (.d pa), o12] = .nx [o0, some (lfO zs sp), some (T (jn tr)), some (T vs), o4, o5, o6, o7, o8, some (.d bad), some (.d oth), some (.d pa), some (N 4)] := by
  rw [rg5, rr_step e1 e2 (by decide) (by decide), rr_step e1 e2 (by decide) (by decide), rr_step e1 e2 (by decide) (by decide), rr_step e1 e2 (by decide) (by decide), rr_step e1 e2 (by decide) (by decide)]
  rfl
end
/-! what is no tour, no view -/
theorem pick_of (xs : List D) {P : D → Prop} (hp : ∀ d ∈ xs, P d) {i : Int} (i0 : 0 ≤ i) (i1 : i < (xs.length : Int)) : ∃ d, P d ∧ atO (.l (xs.map O.d)) i = some d := by
  obtain ⟨k, rfl⟩ := Int.eq_ofNat_of_zero_le i0
  obtain ⟨d, hd⟩ : ∃ d, xs[k]? = some d := ⟨_, List.getElem?_eq_getElem (by omega)⟩
  refine ⟨d, hp d (List.mem_of_getElem? hd), ?_⟩
  rw [atO_l' _ xs _ rfl]
  rw [Dn.atI_nat, hd]
theorem tourB_no {n : Nat} {ds : List D} {d : D} (m : d ∈ ds) (h : below d n = false) : tourB n (.tup ds) = false := by
  unfold tourB
  rw [List.all_eq_false]
  exact ⟨false, List.mem_map.mpr ⟨d, m, h⟩, by simp⟩
def BadT (n : Nat) (d : D) : Prop := Few d ∧ (tourB n d = false ∨ d = .tup [])
def BadV (xs : List Int) (d : D) : Prop := Few d ∧ rowB xs d = false
theorem rowB_len {xs : List Int} {ds : List D} (h : ds.length ≠ xs.length) : rowB xs (.tup ds) = false := by simp [rowB, h]
theorem zw_at : ∀ {xs : List Int} {ds : List D} {p : Nat} {x : Int} {d : D}, xs[p]? = some x → ds[p]? = some d → below d x = false → (zw ds xs).all id = false
  | x :: xs, d :: ds, 0, _, _, h1, h2, h => by
    injection h1 with h1
    injection h2 with h2
    subst h1 h2
    simp [zw, h]
  | x :: xs, d :: ds, p + 1, y, e, h1, h2, h => by
    have := zw_at (xs := xs) (ds := ds) (p := p) h1 h2 h
    simp only [zw, List.all_cons, this, Bool.and_false]
theorem rowB_at {xs : List Int} {ds : List D} {p : Nat} {x : Int} {d : D} (h1 : xs[p]? = some x) (h2 : ds[p]? = some d) (h : below d x = false) : rowB xs (.tup ds) = false := by
  simp only [rowB, zw_at h1 h2 h, Bool.and_false]
theorem cut_init (ds : List D) (h : 1 ≤ ds.length) : (Dn.cutD ds none (some (-1))).length = ds.length - 1 := by
  unfold Dn.cutD
  rw [List.length_take, List.length_drop]
  simp [HT.sIx]
  omega
theorem cut_ahead_len (xs : List Int) (p : Nat) (h : p ≤ xs.length) : (Dn.cutD (I xs) none (some (p : Int))).length = p := by
  unfold Dn.cutD
  rw [List.length_take, List.length_drop]
  have e : ¬ (p : Int) < 0 := by omega
  simp [HT.sIx, e]
  omega
end K24
end
section
set_option Elab.async false
set_option linter.all false
set_option maxRecDepth 100000
set_option maxHeartbeats 4000000
namespace K24
open PySem PySem.Spec L2 L2H Dn K24M
open PyProof.Rows hiding St
def mRr : MS :=
  mSeq (mSet 4 (mOp oLen [.ex (mOp oIx [.nm 1, .ex (mC (.int 0))])]))
  (mSeq (mSet 5 (mAll oLst [.ex (mAll oTup []), .ex (mFz (mOp (op1 toLst) [.nm 2])), .ex (mOp oPlus [.ex (mSlice (.nm 2) none (some (mOp oNeg [.ex (mC (.int 1))]))), .ex (mAll oTup [.ex (mN 4)])]), .ex (mOp oPlus [.ex (mSlice (.nm 2) none (some (mOp oNeg [.ex (mC (.int 1))]))), .ex (mAll oTup [.ex (mOp oBool [.ex (mOp oIx [.nm 2, .ex (mOp oNeg [.ex (mC (.int 1))])])])])]), .ex (mOp oPlus [.ex (mAll oTup [.ex (mOp oNeg [.ex (mC (.int 1))])]), .ex (mSlice (.nm 2) (some (mC (.int 1))) none)]), .ex (mC .non), .ex (mC (.str "0")), .ex (mC (.int 0))]))
  (mSeq (mExpr (mMut 5 fApp [.ex (mAll oTup [])]))
  (mSeq (mSet 6 (mCall D__law_take [.nm 0, .ex (mOp oLen [.nm 3])]))
  (mSeq (mSet 7 (mOp oIx [.ex (mAll oLst [.ex (mOp oIx [.ex (mOp oIx [.nm 1, .ex (mC (.int 0))]), .ex (mOp oIx [.nm 2, .nm 6])]), .ex (mOp oBool [.ex (mOp oIx [.nm 3, .nm 6])]), .ex (mOp oNeg [.ex (mC (.int 1))]), .ex (mC (.str "0")), .ex (mC .non)]), .ex (mCall D__law_take [.nm 0, .ex (mC (.int 5))])]))
  (mSeq (mSet 8 (mAll oLst [.ex (mFz (mOp (op1 toLst) [.nm 3])), .ex (mOp oPlus [.nm 3, .ex (mAll oTup [.ex (mC (.int 0))])]), .ex (mSlice (.nm 3) none (some (mOp oNeg [.ex (mC (.int 1))]))), .ex (mC .non), .ex (mOp oPlus [.ex (mOp oPlus [.ex (mSlice (.nm 3) none (some (mN 6))), .ex (mAll oTup [.ex (mN 7)])]), .ex (mSlice (.nm 3) (some (mOp oPlus [.nm 6, .ex (mC (.int 1))])) none)]), .ex (mC (.int 0))]))
  (mSeq (mSet 9 (mOp oIx [.nm 5, .ex (mCall D__law_take [.nm 0, .ex (mOp oLen [.nm 5])])]))
  (mSeq (mSet 10 (mOp oIx [.nm 8, .ex (mCall D__law_take [.nm 0, .ex (mOp oLen [.nm 8])])]))
  (mSeq (mSet 11 (mCall D__law_filled [.nm 0, .nm 1, .nm 2, .nm 3]))
  (mSeq (mFor (mRg [.ex (mC (.int 5))]) (gN 12) bRr)
  (mRet (mC (.bl true))))))))))))
theorem mRr_eq : D__law_refused_right = fnD [0, 1, 2, 3] 13 mRr := rfl
theorem plus_tt {a b : List D} (h : a.length + b.length ≤ 100000) : oPlus [.d (.tup a), .d (.tup b)] = some (.d (.tup (a ++ b))) := by rw [oPlus_tt, if_pos (by unfold line; omega)]
section
variable {zs : List Int} {sp : Sp} {tr : List Nat} {vs : List Int}
theorem last_jn {l : List Nat} (h : 1 ≤ l.length) : ∃ i, atI (I (jn l)) (-1) = some (.int i) := by
  obtain ⟨x, hx, -⟩ := last_of h
  exact ⟨_, at_last (jn_last hx)⟩
theorem e_refused_right (hL : Lf zs sp) (ht : To zs tr) (hv : RowOk (pk zs tr) vs) {ns : List Int} (hn : ns ≠ []) : ∃ ns', D__law_refused_right [Po ns, lfO zs sp, T (jn tr), T vs] = .ok tt [some (Po ns'), some (lfO zs sp), some (T (jn tr)), some (T vs)] := by
  have h : Tv zs sp tr vs := ⟨hL, ht.t, ht.t1, by have := ht.t5; omega, hv⟩
  have t1 := h.t1
  have t8 := h.t8
  have z1 := hL.z1
  have z3 := hL.z3
  have vl := h.vl
  have jl := jn_len tr
  have l0 := lf0 zs sp
  have pl : (pk zs tr).length = tr.length := by simp [pk]
  obtain ⟨la, hla⟩ := last_jn t1
  obtain ⟨p, ns1, n1, p0, p1, e1⟩ := e_take hn (many := (vs.length : Int)) (by omega)
  obtain ⟨p, rfl⟩ := Int.eq_ofNat_of_zero_le p0
  obtain ⟨d, hd⟩ : ∃ d, tr[p]? = some d := ⟨_, List.getElem?_eq_getElem (by omega)⟩
  obtain ⟨z, hz, hz2⟩ := pk_get ht.t hd
  obtain ⟨v, hvp, -⟩ := RowOk_at hv hz2
  have gd := jn_get hd
  obtain ⟨q, ns2, n2, q0, q1, e2⟩ := e_take n1 (many := 5) (by decide)
  obtain ⟨od, ho, ao⟩ := pick_of [.int z, .bl (v != 0), .int (-1), .str "0", .non] (P := fun d => below d z = false) (fun d m => by
    simp at m
    rcases m with rfl | rfl | rfl | rfl | rfl <;> simp [below]) q0 (by simpa using q1)
  obtain ⟨t, ns3, n3, t0, t9, e3⟩ := e_take n2 (many := 9) (by decide)
  obtain ⟨u, ns4, n4, u0, u6, e4⟩ := e_take n3 (many := 6) (by decide)
  obtain ⟨A, B, ns5, n5, hA, hB, e5⟩ := e_filled h n4
  obtain ⟨C1, hC1⟩ : ∃ C, C = Dn.cutD (I (jn tr)) none (some (-1)) := ⟨_, rfl⟩
  obtain ⟨C2, hC2⟩ : ∃ C, C = Dn.cutD (I (jn tr)) (some 1) none := ⟨_, rfl⟩
  obtain ⟨C3, hC3⟩ : ∃ C, C = Dn.cutD (I vs) none (some (p : Int)) := ⟨_, rfl⟩
  obtain ⟨C4, hC4⟩ : ∃ C, C = Dn.cutD (I vs) (some ((p : Int) + 1)) none := ⟨_, rfl⟩
  obtain ⟨C5, hC5⟩ : ∃ C, C = Dn.cutD (I vs) none (some (-1)) := ⟨_, rfl⟩
  have k1 : C1.length ≤ 8 := by rw [hC1]; exact Nat.le_trans cut_len (by simp; omega)
  have k2 : C2.length ≤ 8 := by rw [hC2]; exact Nat.le_trans cut_len (by simp; omega)
  have k3 : C3.length = p := by rw [hC3]; exact cut_ahead_len vs p (by omega)
  have k4 : C4.length ≤ 8 := by rw [hC4]; exact Nat.le_trans cut_len (by simp; omega)
  have k5 : C5.length = vs.length - 1 := by rw [hC5, cut_init _ (by simp; omega), I_len]
  have s1 := fun (y : D) => plus_tt (a := C1) (b := [y]) (by rw [List.length_singleton]; omega)
  have s2 := fun (y : D) => plus_tt (a := [y]) (b := C2) (by rw [List.length_singleton]; omega)
  have s3 := fun (y : D) => plus_tt (a := C3) (b := [y]) (by rw [List.length_singleton]; omega)
  have s4 := fun (y : D) => plus_tt (a := C3 ++ [y]) (b := C4) (by rw [List.length_append, List.length_singleton]; omega)
  have s5 := fun (y : D) => plus_tt (a := I vs) (b := [y]) (by rw [List.length_singleton, I_len]; omega)
  obtain ⟨bad, hb, ab⟩ := pick_of [.tup [], .lst (I (jn tr)), .tup (C1 ++ [.int zs.length]), .tup (C1 ++ [.bl (la != 0)]), .tup ([.int (-1)] ++ C2), .non, .str "0", .int 0, .tup []] (P := BadT zs.length) (fun x m => by
    simp only [List.mem_cons, List.not_mem_nil, or_false] at m
    rcases m with rfl | rfl | rfl | rfl | rfl | rfl | rfl | rfl | rfl
    · exact ⟨few_tup (by simp), .inr rfl⟩
    · exact ⟨few_lst _, .inl rfl⟩
    · exact ⟨few_tup (by rw [List.length_append, List.length_singleton]; omega), .inl (tourB_no (d := .int zs.length) (by simp) (by simp [below]))⟩
    · exact ⟨few_tup (by rw [List.length_append, List.length_singleton]; omega), .inl (tourB_no (d := .bl (la != 0)) (by simp) rfl)⟩
    · exact ⟨few_tup (by rw [List.length_append, List.length_singleton]; omega), .inl (tourB_no (d := .int (-1)) (by simp) (by simp [below]))⟩
    · exact ⟨(fun _ e => nomatch e), .inl rfl⟩
    · exact ⟨(fun _ e => nomatch e), .inl rfl⟩
    · exact ⟨(fun _ e => nomatch e), .inl rfl⟩
    · exact ⟨few_tup (by simp), .inr rfl⟩) t0 (by simpa using t9)
  obtain ⟨oth, hoth, aoth⟩ := pick_of [.lst (I vs), .tup (I vs ++ [.int 0]), .tup C5, .non, .tup (C3 ++ [od] ++ C4), .int 0] (P := BadV (pk zs tr)) (fun x m => by
    simp only [List.mem_cons, List.not_mem_nil, or_false] at m
    rcases m with rfl | rfl | rfl | rfl | rfl | rfl
    · exact ⟨few_lst _, rfl⟩
    · exact ⟨few_tup (by rw [List.length_append, List.length_singleton, I_len]; omega), rowB_len (by rw [List.length_append, List.length_singleton, I_len]; omega)⟩
    · exact ⟨few_tup (by omega), rowB_len (by omega)⟩
    · exact ⟨(fun _ e => nomatch e), rfl⟩
    · exact ⟨few_tup (by rw [List.length_append, List.length_append, List.length_singleton]; omega), rowB_at hz2 (by rw [List.append_assoc, List.getElem?_append_right (by omega), k3, Nat.sub_self]; rfl) ho⟩
    · exact ⟨(fun _ e => nomatch e), rfl⟩) u0 (by simpa using u6)
  have rr := rr_loop (zs := zs) (sp := sp) (tr := tr) (vs := vs) (bad := bad) (oth := oth) (pa := pairD A B) (fun v => e_asked_tour (by omega) hb.1 hb.2) (e_asked_view (by omega) ht.t t1 (by omega) hoth.1 hoth.2)
  refine ⟨ns5, ?_⟩
  rw [mRr_eq]
  simp only [List.map_cons, List.map_nil] at ab ao aoth
  have hI : I vs ++ [D.int 0] = I (vs ++ [0]) := by simp
  simp only [List.append_assoc, List.cons_append, List.nil_append, hI] at ab aoth
  generalize jn tr = TJ at *
  simp [mRr, l0, ← hC1, ← hC2, ← hC3, ← hC4, ← hC5, ↓s1, ↓s2, ↓s3, ↓s4, ↓s5, hla, e1, ↓hvp, ↓gd, hz, e2, ao, e3, ab, e4, aoth, e5, rr]
  done
end
end K24
end
section
set_option Elab.async false
set_option linter.all false
set_option maxRecDepth 100000
set_option maxHeartbeats 4000000
namespace K24
open PySem PySem.Spec L2 L2H Dn K24M
open PyProof.Rows hiding St
def bLw : MS := mSeq (mSet 4 (mCall D__law_view [.nm 1, .nm 2, .nm 3]))
  (mIf (mTNot (mB (mCall D__law_view_right [.nm 1, .nm 2, .nm 3, .nm 4]))) (mRet (mC (.bl false))) (mPass))
section
variable {zs : List Int} {sp : Sp} {tr : List Nat}
theorem lw_loop (hL : Lf zs sp) (hS : Sg sp) (ht : To zs tr) (o0 : Option O) : ∀ (its : List D) (ns : List Int) (vs : List Int) (o5 : Option O), ns ≠ [] → (its = [] → RowOk (pk zs tr) vs) → ∃ ns' vs' o5', ns' ≠ [] ∧ RowOk (pk zs tr) vs' ∧ forL (gN 5) bLw its [o0, some (Po ns), some (lfO zs sp), some (T (jn tr)), some (T vs), o5] = .nx [o0, some (Po ns'), some (lfO zs sp), some (T (jn tr)), some (T vs'), o5']
  | [], ns, vs, o5, hn, hv => ⟨ns, vs, o5, hn, hv rfl, rfl⟩
  | d :: its, ns, vs, o5, hn, _ => by
    obtain ⟨ws, ns1, n1, hw, e1⟩ := e_view hL ht hn
    obtain ⟨ns2, n2, e2⟩ := e_view_right hL hS ht hw n1
    obtain ⟨ns', vs', o5', n', hv', e⟩ := lw_loop hL hS ht o0 its ns2 ws (some (.d d)) n2 (fun _ => hw)
    refine ⟨ns', vs', o5', n', hv', ?_⟩
    rw [← e]
    generalize jn tr = TJ at *
    simp [forL_cons, bLw, e1, e2]
end
def mLw : MS :=
  mSeq (mSet 1 (mCall D__law_draws [.nm 0]))
  (mSeq (mUnp (mCall D__law_life [.nm 1]) (gT [gN 2, gN 3]))
  (mSeq (mSet 4 (mAll oTup [.ex (mC (.int 0))]))
  (mSeq (mFor (mRg [.ex (mC (.int 4))]) (gN 5) bLw)
  (mRet (mCall D__law_refused_right [.nm 1, .nm 2, .nm 3, .nm 4])))))
theorem mLw_eq : D_law = fnD [0] 6 mLw := rfl
theorem e_law {ns : List Int} (hns : ns.length ≤ 63) : ∃ as, D_law [.d (.scr (I ns))] = .ok tt as := by
  obtain ⟨pool, n0, e0⟩ := e_draws hns
  obtain ⟨zs, sp, tr, ns1, n1, hL, hS, ht, e1⟩ := e_life n0
  obtain ⟨ns2, vs, o5, n2, hv, e2⟩ := lw_loop hL hS ht (some (.d (.scr (I ns)))) (rgD 0 4) ns1 [0] none n1 (fun z => nomatch z)
  obtain ⟨e, e3⟩ := e_refused_right hL ht hv n2
  refine ⟨[some (.d (.scr (I ns)))], ?_⟩
  rw [mLw_eq]
  have t0 : T [0] = .d (.tup [.int 0]) := rfl
  rw [t0] at e2
  simp [mLw, e0, e1, e2, e3]
end K24
end
section
set_option Elab.async false
set_option linter.all false
set_option maxRecDepth 100000
set_option maxHeartbeats 4000000
namespace K24
open PySem PySem.Spec L2 L2H Dn
open PyProof.Rows hiding St
/-- the plain law -/
def Plain : Prop := ∀ ns : List Int, ns.length ≤ 63 → ∃ as, D_law [.d (.scr (ns.map D.int))] = .ok (.d (.bl true)) as
theorem plain : Plain := fun ns h => e_law h
theorem all_mk {l : PySem.W.OpenLaw} {w : World} {K : PySem.W.Frag} {h : Heap} {mg : Str → Option Value} {fa f1 f2 f3 f4 f5 f6 f8 f9 f10 f11 f12 f14 f15 f16 f17 f18 f19 f21 f22 f23 f25 f26 f27 f28 f29 f30 f31 f32 f33 f34 f35 f36 f37 f38 f39 f40 f41 f42 f43 f44 f45 f46 f1004 f1005 f1006 : Addr} {d8 d9 d10 d11 d12 d14 d15 d16 d17 d18 d19 d21 d22 d23 d25 d26 d27 d28 d29 d30 d31 d32 d33 d34 d35 d36 d37 d38 d39 d40 d41 d42 d43 d44 d45 d46 d1004 d1005 d1006 : FuncData} (plain : Plain) (X : K.In h) (G : h.Ns mainGlobals mg) (hfa : mg "law" = some (.ref fa))
    (aC1 : PySem.W.nsIn K mainGlobals "StoodError" = some (some (.ref f1)))
    (aC2 : PySem.W.nsIn K mainGlobals "PaperError" = some (some (.ref f2)))
    (aC3 : PySem.W.nsIn K mainGlobals "CodeError" = some (some (.ref f3)))
    (aC4 : PySem.W.nsIn K mainGlobals "InvalidPaper" = some (some (.ref f4)))
    (aC5 : PySem.W.nsIn K mainGlobals "NotUsable" = some (some (.ref f5)))
    (aC6 : PySem.W.nsIn K mainGlobals "Unseen" = some (some (.ref f6)))
    (a8 : PySem.W.nsIn K mainGlobals "is_integer" = some (some (.ref f8)))
    (F8 : Fun K "is_integer" "is_integer" s_is_integer f8 d8)
    (a9 : PySem.W.nsIn K mainGlobals "is_number" = some (some (.ref f9)))
    (F9 : Fun K "is_number" "is_number" s_is_number f9 d9)
    (a10 : PySem.W.nsIn K mainGlobals "is_row" = some (some (.ref f10)))
    (F10 : Fun K "is_row" "is_row" s_is_row f10 d10)
    (a11 : PySem.W.nsIn K mainGlobals "is_tour" = some (some (.ref f11)))
    (F11 : Fun K "is_tour" "is_tour" s_is_tour f11 d11)
    (a12 : PySem.W.nsIn K mainGlobals "is_view" = some (some (.ref f12)))
    (F12 : Fun K "is_view" "is_view" s_is_view f12 d12)
    (a14 : PySem.W.nsIn K mainGlobals "asked_looks" = some (some (.ref f14)))
    (F14 : Fun K "asked_looks" "asked_looks" s_asked_looks f14 d14)
    (a15 : PySem.W.nsIn K mainGlobals "moment_on" = some (some (.ref f15)))
    (F15 : Fun K "moment_on" "moment_on" s_moment_on f15 d15)
    (a16 : PySem.W.nsIn K mainGlobals "moment_back" = some (some (.ref f16)))
    (F16 : Fun K "moment_back" "moment_back" s_moment_back f16 d16)
    (a17 : PySem.W.nsIn K mainGlobals "early_moments" = some (some (.ref f17)))
    (F17 : Fun K "early_moments" "early_moments" s_early_moments f17 d17)
    (a18 : PySem.W.nsIn K mainGlobals "late_moments" = some (some (.ref f18)))
    (F18 : Fun K "late_moments" "late_moments" s_late_moments f18 d18)
    (a19 : PySem.W.nsIn K mainGlobals "life_span" = some (some (.ref f19)))
    (F19 : Fun K "life_span" "life_span" s_life_span f19 d19)
    (a21 : PySem.W.nsIn K mainGlobals "answer_paper" = some (some (.ref f21)))
    (F21 : Fun K "answer_paper" "answer_paper" s_answer_paper f21 d21)
    (a22 : PySem.W.nsIn K mainGlobals "are_moments" = some (some (.ref f22)))
    (F22 : Fun K "are_moments" "are_moments" s_are_moments f22 d22)
    (a23 : PySem.W.nsIn K mainGlobals "lets_answer" = some (some (.ref f23)))
    (F23 : Fun K "lets_answer" "lets_answer" s_lets_answer f23 d23)
    (a25 : PySem.W.nsIn K mainGlobals "_law_same" = some (some (.ref f25)))
    (F25 : Fun K "_law_same" "_law_same" s__law_same f25 d25)
    (a26 : PySem.W.nsIn K mainGlobals "_law_draws" = some (some (.ref f26)))
    (F26 : Fun K "_law_draws" "_law_draws" s__law_draws f26 d26)
    (a27 : PySem.W.nsIn K mainGlobals "_law_take" = some (some (.ref f27)))
    (F27 : Fun K "_law_take" "_law_take" s__law_take f27 d27)
    (a28 : PySem.W.nsIn K mainGlobals "_law_drawn_life" = some (some (.ref f28)))
    (F28 : Fun K "_law_drawn_life" "_law_drawn_life" s__law_drawn_life f28 d28)
    (a29 : PySem.W.nsIn K mainGlobals "_law_order" = some (some (.ref f29)))
    (F29 : Fun K "_law_order" "_law_order" s__law_order f29 d29)
    (a30 : PySem.W.nsIn K mainGlobals "_law_built_life" = some (some (.ref f30)))
    (F30 : Fun K "_law_built_life" "_law_built_life" s__law_built_life f30 d30)
    (a31 : PySem.W.nsIn K mainGlobals "_law_life" = some (some (.ref f31)))
    (F31 : Fun K "_law_life" "_law_life" s__law_life f31 d31)
    (a32 : PySem.W.nsIn K mainGlobals "_law_view" = some (some (.ref f32)))
    (F32 : Fun K "_law_view" "_law_view" s__law_view f32 d32)
    (a33 : PySem.W.nsIn K mainGlobals "_law_fronts" = some (some (.ref f33)))
    (F33 : Fun K "_law_fronts" "_law_fronts" s__law_fronts f33 d33)
    (a34 : PySem.W.nsIn K mainGlobals "_law_turned" = some (some (.ref f34)))
    (F34 : Fun K "_law_turned" "_law_turned" s__law_turned f34 d34)
    (a35 : PySem.W.nsIn K mainGlobals "_law_early" = some (some (.ref f35)))
    (F35 : Fun K "_law_early" "_law_early" s__law_early f35 d35)
    (a36 : PySem.W.nsIn K mainGlobals "_law_late" = some (some (.ref f36)))
    (F36 : Fun K "_law_late" "_law_late" s__law_late f36 d36)
    (a37 : PySem.W.nsIn K mainGlobals "_law_span" = some (some (.ref f37)))
    (F37 : Fun K "_law_span" "_law_span" s__law_span f37 d37)
    (a38 : PySem.W.nsIn K mainGlobals "_law_moments" = some (some (.ref f38)))
    (F38 : Fun K "_law_moments" "_law_moments" s__law_moments f38 d38)
    (a39 : PySem.W.nsIn K mainGlobals "_law_paper" = some (some (.ref f39)))
    (F39 : Fun K "_law_paper" "_law_paper" s__law_paper f39 d39)
    (a40 : PySem.W.nsIn K mainGlobals "_law_asked" = some (some (.ref f40)))
    (F40 : Fun K "_law_asked" "_law_asked" s__law_asked f40 d40)
    (a41 : PySem.W.nsIn K mainGlobals "_law_bent" = some (some (.ref f41)))
    (F41 : Fun K "_law_bent" "_law_bent" s__law_bent f41 d41)
    (a42 : PySem.W.nsIn K mainGlobals "_law_thing" = some (some (.ref f42)))
    (F42 : Fun K "_law_thing" "_law_thing" s__law_thing f42 d42)
    (a43 : PySem.W.nsIn K mainGlobals "_law_filled" = some (some (.ref f43)))
    (F43 : Fun K "_law_filled" "_law_filled" s__law_filled f43 d43)
    (a44 : PySem.W.nsIn K mainGlobals "_law_refused_right" = some (some (.ref f44)))
    (F44 : Fun K "_law_refused_right" "_law_refused_right" s__law_refused_right f44 d44)
    (a45 : PySem.W.nsIn K mainGlobals "_law_view_right" = some (some (.ref f45)))
    (F45 : Fun K "_law_view_right" "_law_view_right" s__law_view_right f45 d45)
    (a46 : PySem.W.nsIn K mainGlobals "law" = some (some (.ref f46)))
    (F46 : Fun K "law" "law" s_law f46 d46)
    (i4 : PySem.W.findIn K (.ref f4) "__init__" = some (some (.ref f1004)))
    (F1004 : Fun K "__init__" "InvalidPaper.__init__" sI_InvalidPaper f1004 d1004)
    (t1004 : PySem.W.typeIn K (.ref f1004) = some (.type "function"))
    (i5 : PySem.W.findIn K (.ref f5) "__init__" = some (some (.ref f1005)))
    (F1005 : Fun K "__init__" "NotUsable.__init__" sI_NotUsable f1005 d1005)
    (t1005 : PySem.W.typeIn K (.ref f1005) = some (.type "function"))
    (i6 : PySem.W.findIn K (.ref f6) "__init__" = some (some (.ref f1006)))
    (F1006 : Fun K "__init__" "Unseen.__init__" sI_Unseen f1006 d1006)
    (t1006 : PySem.W.typeIn K (.ref f1006) = some (.type "function"))
    (o4 : OexC K f4)
    (q4 : XfC K f4)
    (z4 : XiC K f4)
    (n4_word : PySem.W.findIn K (.ref f4) "word" = some none)
    (n4_at : PySem.W.findIn K (.ref f4) "at" = some none)
    (e4_InvalidPaper : PySem.W.exmOne K (.ref f4) (.ref f4) = some true)
    (e4_NotUsable : PySem.W.exmOne K (.ref f4) (.ref f5) = some false)
    (e4_Unseen : PySem.W.exmOne K (.ref f4) (.ref f6) = some false)
    (o5 : OexC K f5)
    (q5 : XfC K f5)
    (z5 : XiC K f5)
    (n5_word : PySem.W.findIn K (.ref f5) "word" = some none)
    (n5_at : PySem.W.findIn K (.ref f5) "at" = some none)
    (e5_InvalidPaper : PySem.W.exmOne K (.ref f5) (.ref f4) = some false)
    (e5_NotUsable : PySem.W.exmOne K (.ref f5) (.ref f5) = some true)
    (e5_Unseen : PySem.W.exmOne K (.ref f5) (.ref f6) = some false)
    (o6 : OexC K f6)
    (q6 : XfC K f6)
    (z6 : XiC K f6)
    (n6_place : PySem.W.findIn K (.ref f6) "place" = some none)
    (e6_InvalidPaper : PySem.W.exmOne K (.ref f6) (.ref f4) = some false)
    (e6_NotUsable : PySem.W.exmOne K (.ref f6) (.ref f5) = some false)
    (e6_Unseen : PySem.W.exmOne K (.ref f6) (.ref f6) = some true)
    (z_all : PySem.W.nsIn K mainGlobals "all" = some none)
    (z_bool : PySem.W.nsIn K mainGlobals "bool" = some none)
    (z_enumerate : PySem.W.nsIn K mainGlobals "enumerate" = some none)
    (z_int : PySem.W.nsIn K mainGlobals "int" = some none)
    (z_isinstance : PySem.W.nsIn K mainGlobals "isinstance" = some none)
    (z_len : PySem.W.nsIn K mainGlobals "len" = some none)
    (z_list : PySem.W.nsIn K mainGlobals "list" = some none)
    (z_range : PySem.W.nsIn K mainGlobals "range" = some none)
    (z_reversed : PySem.W.nsIn K mainGlobals "reversed" = some none)
    (z_sorted : PySem.W.nsIn K mainGlobals "sorted" = some none)
    (z_str : PySem.W.nsIn K mainGlobals "str" = some none)
    (z_tuple : PySem.W.nsIn K mainGlobals "tuple" = some none)
    (z_zip : PySem.W.nsIn K mainGlobals "zip" = some none)
    : ∃ fd : FuncData, (∀ (s : Shared) (v : Value), BindsTo s fd ⟨[v], []⟩ [("_law_script", v)]) ∧ ∀ base : Heap, K.In base → base.Ns mainGlobals mg → FnOk l.prog w K mg base (L2N.CX l.prog w) 10 fa fd ["_law_script"] (spLaw K) := by
  have e := hfa.symm.trans (PySem.W.mg_of X G a46)
  cases e
  let ad : Nat → Addr := fun i => if i = 1 then f1 else if i = 2 then f2 else if i = 3 then f3 else if i = 4 then f4 else if i = 5 then f5 else if i = 6 then f6 else if i = 8 then f8 else if i = 9 then f9 else if i = 10 then f10 else if i = 11 then f11 else if i = 12 then f12 else if i = 14 then f14 else if i = 15 then f15 else if i = 16 then f16 else if i = 17 then f17 else if i = 18 then f18 else if i = 19 then f19 else if i = 21 then f21 else if i = 22 then f22 else if i = 23 then f23 else if i = 25 then f25 else if i = 26 then f26 else if i = 27 then f27 else if i = 28 then f28 else if i = 29 then f29 else if i = 30 then f30 else if i = 31 then f31 else if i = 32 then f32 else if i = 33 then f33 else if i = 34 then f34 else if i = 35 then f35 else if i = 36 then f36 else if i = 37 then f37 else if i = 38 then f38 else if i = 39 then f39 else if i = 40 then f40 else if i = 41 then f41 else if i = 42 then f42 else if i = 43 then f43 else if i = 44 then f44 else if i = 45 then f45 else if i = 46 then fa else if i = 1004 then f1004 else if i = 1005 then f1005 else if i = 1006 then f1006 else 0
  let fdn : Nat → FuncData := fun i => if i = 8 then d8 else if i = 9 then d9 else if i = 10 then d10 else if i = 11 then d11 else if i = 12 then d12 else if i = 14 then d14 else if i = 15 then d15 else if i = 16 then d16 else if i = 17 then d17 else if i = 18 then d18 else if i = 19 then d19 else if i = 21 then d21 else if i = 22 then d22 else if i = 23 then d23 else if i = 25 then d25 else if i = 26 then d26 else if i = 27 then d27 else if i = 28 then d28 else if i = 29 then d29 else if i = 30 then d30 else if i = 31 then d31 else if i = 32 then d32 else if i = 33 then d33 else if i = 34 then d34 else if i = 35 then d35 else if i = 36 then d36 else if i = 37 then d37 else if i = 38 then d38 else if i = 39 then d39 else if i = 40 then d40 else if i = 41 then d41 else if i = 42 then d42 else if i = 43 then d43 else if i = 44 then d44 else if i = 45 then d45 else if i = 46 then d46 else if i = 1004 then d1004 else if i = 1005 then d1005 else if i = 1006 then d1006 else d46
  have T : Txt K mg ad fdn := {
    mC_StoodError := PySem.W.mg_of X G aC1,
    mC_PaperError := PySem.W.mg_of X G aC2,
    mC_CodeError := PySem.W.mg_of X G aC3,
    mC_InvalidPaper := PySem.W.mg_of X G aC4,
    mC_NotUsable := PySem.W.mg_of X G aC5,
    mC_Unseen := PySem.W.mg_of X G aC6,
    F_is_integer := F8,
    m_is_integer := PySem.W.mg_of X G a8,
    b_is_integer := F8.binds (ps := ["thing"]) fun _ _ _ _ _ _ us hl => match us, hl with | [_], _ => rfl,
    F_is_number := F9,
    m_is_number := PySem.W.mg_of X G a9,
    b_is_number := F9.binds (ps := ["thing"]) fun _ _ _ _ _ _ us hl => match us, hl with | [_], _ => rfl,
    F_is_row := F10,
    m_is_row := PySem.W.mg_of X G a10,
    b_is_row := F10.binds (ps := ["dials", "thing"]) fun _ _ _ _ _ _ us hl => match us, hl with | [_, _], _ => rfl,
    F_is_tour := F11,
    m_is_tour := PySem.W.mg_of X G a11,
    b_is_tour := F11.binds (ps := ["dials", "thing"]) fun _ _ _ _ _ _ us hl => match us, hl with | [_, _], _ => rfl,
    F_is_view := F12,
    m_is_view := PySem.W.mg_of X G a12,
    b_is_view := F12.binds (ps := ["dials", "tour", "thing"]) fun _ _ _ _ _ _ us hl => match us, hl with | [_, _, _], _ => rfl,
    F_asked_looks := F14,
    m_asked_looks := PySem.W.mg_of X G a14,
    b_asked_looks := F14.binds (ps := ["life", "tour", "view"]) fun _ _ _ _ _ _ us hl => match us, hl with | [_, _, _], _ => rfl,
    F_moment_on := F15,
    m_moment_on := PySem.W.mg_of X G a15,
    b_moment_on := F15.binds (ps := ["life", "dial", "value", "moment"]) fun _ _ _ _ _ _ us hl => match us, hl with | [_, _, _, _], _ => rfl,
    F_moment_back := F16,
    m_moment_back := PySem.W.mg_of X G a16,
    b_moment_back := F16.binds (ps := ["life", "dial", "value", "moment"]) fun _ _ _ _ _ _ us hl => match us, hl with | [_, _, _, _], _ => rfl,
    F_early_moments := F17,
    m_early_moments := PySem.W.mg_of X G a17,
    b_early_moments := F17.binds (ps := ["life", "tour", "view"]) fun _ _ _ _ _ _ us hl => match us, hl with | [_, _, _], _ => rfl,
    kp_early_moments_120 := kwp_of F17 (ps := ["life", "tour", "view"]) (ns := ["tour", "view", "life"]) (π := [2, 0, 1]) (fun _ _ _ _ _ _ us hl => match us, hl with | [_, _, _], _ => rfl) rfl rfl,
    kw_early_moments := kwb_of F17 (ps := ["life", "tour", "view"]) fun _ _ _ _ _ _ us hl => match us, hl with | [_, _, _], _ => rfl,
    F_late_moments := F18,
    m_late_moments := PySem.W.mg_of X G a18,
    b_late_moments := F18.binds (ps := ["life", "tour", "view"]) fun _ _ _ _ _ _ us hl => match us, hl with | [_, _, _], _ => rfl,
    kp_late_moments_210 := kwp_of F18 (ps := ["life", "tour", "view"]) (ns := ["view", "tour", "life"]) (π := [2, 1, 0]) (fun _ _ _ _ _ _ us hl => match us, hl with | [_, _, _], _ => rfl) rfl rfl,
    kw_late_moments := kwb_of F18 (ps := ["life", "tour", "view"]) fun _ _ _ _ _ _ us hl => match us, hl with | [_, _, _], _ => rfl,
    F_life_span := F19,
    m_life_span := PySem.W.mg_of X G a19,
    b_life_span := F19.binds (ps := ["life", "tour", "view"]) fun _ _ _ _ _ _ us hl => match us, hl with | [_, _, _], _ => rfl,
    kp_life_span_201 := kwp_of F19 (ps := ["life", "tour", "view"]) (ns := ["view", "life", "tour"]) (π := [1, 2, 0]) (fun _ _ _ _ _ _ us hl => match us, hl with | [_, _, _], _ => rfl) rfl rfl,
    kw_life_span := kwb_of F19 (ps := ["life", "tour", "view"]) fun _ _ _ _ _ _ us hl => match us, hl with | [_, _, _], _ => rfl,
    F_answer_paper := F21,
    m_answer_paper := PySem.W.mg_of X G a21,
    b_answer_paper := F21.binds (ps := ["life", "tour", "view"]) fun _ _ _ _ _ _ us hl => match us, hl with | [_, _, _], _ => rfl,
    kp_answer_paper_102 := kwp_of F21 (ps := ["life", "tour", "view"]) (ns := ["tour", "life", "view"]) (π := [1, 0, 2]) (fun _ _ _ _ _ _ us hl => match us, hl with | [_, _, _], _ => rfl) rfl rfl,
    kw_answer_paper := kwb_of F21 (ps := ["life", "tour", "view"]) fun _ _ _ _ _ _ us hl => match us, hl with | [_, _, _], _ => rfl,
    F_are_moments := F22,
    m_are_moments := PySem.W.mg_of X G a22,
    b_are_moments := F22.binds (ps := ["life", "many", "thing"]) fun _ _ _ _ _ _ us hl => match us, hl with | [_, _, _], _ => rfl,
    F_lets_answer := F23,
    m_lets_answer := PySem.W.mg_of X G a23,
    b_lets_answer := F23.binds (ps := ["life", "tour", "view", "thing"]) fun _ _ _ _ _ _ us hl => match us, hl with | [_, _, _, _], _ => rfl,
    kp_lets_answer_3210 := kwp_of F23 (ps := ["life", "tour", "view", "thing"]) (ns := ["thing", "view", "tour", "life"]) (π := [3, 2, 1, 0]) (fun _ _ _ _ _ _ us hl => match us, hl with | [_, _, _, _], _ => rfl) rfl rfl,
    kw_lets_answer := kwb_of F23 (ps := ["life", "tour", "view", "thing"]) fun _ _ _ _ _ _ us hl => match us, hl with | [_, _, _, _], _ => rfl,
    F__law_same := F25,
    m__law_same := PySem.W.mg_of X G a25,
    b__law_same := F25.binds (ps := ["_law_told", "_law_due"]) fun _ _ _ _ _ _ us hl => match us, hl with | [_, _], _ => rfl,
    F__law_draws := F26,
    m__law_draws := PySem.W.mg_of X G a26,
    b__law_draws := F26.binds (ps := ["_law_script"]) fun _ _ _ _ _ _ us hl => match us, hl with | [_], _ => rfl,
    F__law_take := F27,
    m__law_take := PySem.W.mg_of X G a27,
    b__law_take := F27.binds (ps := ["_law_draws_here", "_law_many"]) fun _ _ _ _ _ _ us hl => match us, hl with | [_, _], _ => rfl,
    F__law_drawn_life := F28,
    m__law_drawn_life := PySem.W.mg_of X G a28,
    b__law_drawn_life := F28.binds (ps := ["_law_draws_here"]) fun _ _ _ _ _ _ us hl => match us, hl with | [_], _ => rfl,
    F__law_order := F29,
    m__law_order := PySem.W.mg_of X G a29,
    b__law_order := F29.binds (ps := ["_law_draws_here", "_law_size"]) fun _ _ _ _ _ _ us hl => match us, hl with | [_, _], _ => rfl,
    F__law_built_life := F30,
    m__law_built_life := PySem.W.mg_of X G a30,
    b__law_built_life := F30.binds (ps := ["_law_draws_here"]) fun _ _ _ _ _ _ us hl => match us, hl with | [_], _ => rfl,
    F__law_life := F31,
    m__law_life := PySem.W.mg_of X G a31,
    b__law_life := F31.binds (ps := ["_law_draws_here"]) fun _ _ _ _ _ _ us hl => match us, hl with | [_], _ => rfl,
    F__law_view := F32,
    m__law_view := PySem.W.mg_of X G a32,
    b__law_view := F32.binds (ps := ["_law_draws_here", "_law_life_here", "_law_tour"]) fun _ _ _ _ _ _ us hl => match us, hl with | [_, _, _], _ => rfl,
    F__law_fronts := F33,
    m__law_fronts := PySem.W.mg_of X G a33,
    b__law_fronts := F33.binds (ps := ["_law_life_here", "_law_tour", "_law_view_here", "_law_low", "_law_high"]) fun _ _ _ _ _ _ us hl => match us, hl with | [_, _, _, _, _], _ => rfl,
    F__law_turned := F34,
    m__law_turned := PySem.W.mg_of X G a34,
    b__law_turned := F34.binds (ps := ["_law_life_here", "_law_tour", "_law_view_here"]) fun _ _ _ _ _ _ us hl => match us, hl with | [_, _, _], _ => rfl,
    F__law_early := F35,
    m__law_early := PySem.W.mg_of X G a35,
    b__law_early := F35.binds (ps := ["_law_life_here", "_law_tour", "_law_view_here"]) fun _ _ _ _ _ _ us hl => match us, hl with | [_, _, _], _ => rfl,
    F__law_late := F36,
    m__law_late := PySem.W.mg_of X G a36,
    b__law_late := F36.binds (ps := ["_law_life_here", "_law_tour", "_law_view_here"]) fun _ _ _ _ _ _ us hl => match us, hl with | [_, _, _], _ => rfl,
    F__law_span := F37,
    m__law_span := PySem.W.mg_of X G a37,
    b__law_span := F37.binds (ps := ["_law_life_here", "_law_tour", "_law_view_here"]) fun _ _ _ _ _ _ us hl => match us, hl with | [_, _, _], _ => rfl,
    F__law_moments := F38,
    m__law_moments := PySem.W.mg_of X G a38,
    b__law_moments := F38.binds (ps := ["_law_life_here", "_law_tour", "_law_thing_here"]) fun _ _ _ _ _ _ us hl => match us, hl with | [_, _, _], _ => rfl,
    F__law_paper := F39,
    m__law_paper := PySem.W.mg_of X G a39,
    b__law_paper := F39.binds (ps := ["_law_life_here", "_law_tour", "_law_view_here", "_law_thing_here"]) fun _ _ _ _ _ _ us hl => match us, hl with | [_, _, _, _], _ => rfl,
    F__law_asked := F40,
    m__law_asked := PySem.W.mg_of X G a40,
    b__law_asked := F40.binds (ps := ["_law_which", "_law_life_here", "_law_tour", "_law_view_here", "_law_thing_here", "_law_named"]) fun _ _ _ _ _ _ us hl => match us, hl with | [_, _, _, _, _, _], _ => rfl,
    F__law_bent := F41,
    m__law_bent := PySem.W.mg_of X G a41,
    b__law_bent := F41.binds (ps := ["_law_draws_here", "_law_life_here", "_law_row"]) fun _ _ _ _ _ _ us hl => match us, hl with | [_, _, _], _ => rfl,
    F__law_thing := F42,
    m__law_thing := PySem.W.mg_of X G a42,
    b__law_thing := F42.binds (ps := ["_law_draws_here", "_law_life_here", "_law_pair", "_law_other"]) fun _ _ _ _ _ _ us hl => match us, hl with | [_, _, _, _], _ => rfl,
    F__law_filled := F43,
    m__law_filled := PySem.W.mg_of X G a43,
    b__law_filled := F43.binds (ps := ["_law_draws_here", "_law_life_here", "_law_tour", "_law_view_here"]) fun _ _ _ _ _ _ us hl => match us, hl with | [_, _, _, _], _ => rfl,
    F__law_refused_right := F44,
    m__law_refused_right := PySem.W.mg_of X G a44,
    b__law_refused_right := F44.binds (ps := ["_law_draws_here", "_law_life_here", "_law_tour", "_law_view_here"]) fun _ _ _ _ _ _ us hl => match us, hl with | [_, _, _, _], _ => rfl,
    F__law_view_right := F45,
    m__law_view_right := PySem.W.mg_of X G a45,
    b__law_view_right := F45.binds (ps := ["_law_draws_here", "_law_life_here", "_law_tour", "_law_view_here"]) fun _ _ _ _ _ _ us hl => match us, hl with | [_, _, _, _], _ => rfl,
    F_law := F46,
    m_law := PySem.W.mg_of X G a46,
    b_law := F46.binds (ps := ["_law_script"]) fun _ _ _ _ _ _ us hl => match us, hl with | [_], _ => rfl,
    i_InvalidPaper := i4,
    FI_InvalidPaper := F1004,
    bI_InvalidPaper := F1004.binds (ps := ["self", "word", "at"]) fun _ _ _ _ _ _ us hl => match us, hl with | [_, _, _], _ => rfl,
    t_InvalidPaper := t1004,
    i_NotUsable := i5,
    FI_NotUsable := F1005,
    bI_NotUsable := F1005.binds (ps := ["self", "word", "at"]) fun _ _ _ _ _ _ us hl => match us, hl with | [_, _, _], _ => rfl,
    t_NotUsable := t1005,
    i_Unseen := i6,
    FI_Unseen := F1006,
    bI_Unseen := F1006.binds (ps := ["self", "place"]) fun _ _ _ _ _ _ us hl => match us, hl with | [_, _], _ => rfl,
    t_Unseen := t1006,
    o_InvalidPaper := o4,
    q_InvalidPaper := q4,
    z_InvalidPaper := z4,
    n_InvalidPaper_word := n4_word,
    n_InvalidPaper_at := n4_at,
    e_InvalidPaper_InvalidPaper := e4_InvalidPaper,
    e_InvalidPaper_NotUsable := e4_NotUsable,
    e_InvalidPaper_Unseen := e4_Unseen,
    o_NotUsable := o5,
    q_NotUsable := q5,
    z_NotUsable := z5,
    n_NotUsable_word := n5_word,
    n_NotUsable_at := n5_at,
    e_NotUsable_InvalidPaper := e5_InvalidPaper,
    e_NotUsable_NotUsable := e5_NotUsable,
    e_NotUsable_Unseen := e5_Unseen,
    o_Unseen := o6,
    q_Unseen := q6,
    z_Unseen := z6,
    n_Unseen_place := n6_place,
    e_Unseen_InvalidPaper := e6_InvalidPaper,
    e_Unseen_NotUsable := e6_NotUsable,
    e_Unseen_Unseen := e6_Unseen,
    b_all := PySem.W.mg_none_of X G z_all,
    b_bool := PySem.W.mg_none_of X G z_bool,
    b_enumerate := PySem.W.mg_none_of X G z_enumerate,
    b_int := PySem.W.mg_none_of X G z_int,
    b_isinstance := PySem.W.mg_none_of X G z_isinstance,
    b_len := PySem.W.mg_none_of X G z_len,
    b_list := PySem.W.mg_none_of X G z_list,
    b_range := PySem.W.mg_none_of X G z_range,
    b_reversed := PySem.W.mg_none_of X G z_reversed,
    b_sorted := PySem.W.mg_none_of X G z_sorted,
    b_str := PySem.W.mg_none_of X G z_str,
    b_tuple := PySem.W.mg_none_of X G z_tuple,
    b_zip := PySem.W.mg_none_of X G z_zip }
  have bl : Binds K d46 ["_law_script"] [] := T.b_law
  obtain ⟨oc, od, kV, doc, pm, an, cdv, ct, osl, rfl, lk, hcd⟩ := F46.ex
  exact ⟨_, fun s v => .of_eq rfl, fun base _ _ => (ok_law T).imp (law_imp plain)⟩
end K24
open PySem PySem.W PyProof.Rows
set_option maxRecDepth 100000 in
set_option maxHeartbeats 0 in
theorem PySem.Challenge.cw_stoodthen_k24_whole_handed_lives_and_pap_holds : PySem.Challenge.rw_stoodthen_k24_whole_handed_lives_and_pap.Holds := by
  w_on; o_law; k_head; (case hw => w_witness2)
  k_fill
  refine L2.walk_of (l := PySem.Challenge.rw_stoodthen_k24_whole_handed_lives_and_pap) (n := 63) (k := 10) (x := "_law_script") (CX := fun w => L2N.CX PySem.Challenge.rw_stoodthen_k24_whole_handed_lives_and_pap.prog w) (sp := fun w => Dn.spLaw _) rfl (by decide) rfl ⟨rfl, by decide, by decide⟩ (fun w h Y => PySem.W.kIn_of Y) ?F (fun _ _ a ns hl _ hS => ⟨a, ns, rfl, hS, hl, fun _ => rfl⟩) (fun _ _ _ _ _ z => Dn.cxN_no z)
  case F =>
    intro w mg fa h KX G hmg
    refine' K24.all_mk K24.plain KX G hmg ?aC1 ?aC2 ?aC3 ?aC4 ?aC5 ?aC6 ?a8 ?F8 ?a9 ?F9 ?a10 ?F10 ?a11 ?F11 ?a12 ?F12 ?a14 ?F14 ?a15 ?F15 ?a16 ?F16 ?a17 ?F17 ?a18 ?F18 ?a19 ?F19 ?a21 ?F21 ?a22 ?F22 ?a23 ?F23 ?a25 ?F25 ?a26 ?F26 ?a27 ?F27 ?a28 ?F28 ?a29 ?F29 ?a30 ?F30 ?a31 ?F31 ?a32 ?F32 ?a33 ?F33 ?a34 ?F34 ?a35 ?F35 ?a36 ?F36 ?a37 ?F37 ?a38 ?F38 ?a39 ?F39 ?a40 ?F40 ?a41 ?F41 ?a42 ?F42 ?a43 ?F43 ?a44 ?F44 ?a45 ?F45 ?a46 ?F46 ?i4 ?F1004 ?t1004 ?i5 ?F1005 ?t1005 ?i6 ?F1006 ?t1006 ?o4 ?q4 ?z4 ?n4_word ?n4_at ?e4_InvalidPaper ?e4_NotUsable ?e4_Unseen ?o5 ?q5 ?z5 ?n5_word ?n5_at ?e5_InvalidPaper ?e5_NotUsable ?e5_Unseen ?o6 ?q6 ?z6 ?n6_place ?e6_InvalidPaper ?e6_NotUsable ?e6_Unseen ?z_all ?z_bool ?z_enumerate ?z_int ?z_isinstance ?z_len ?z_list ?z_range ?z_reversed ?z_sorted ?z_str ?z_tuple ?z_zip
    case aC1 => k_is
    case aC2 => k_is
    case aC3 => k_is
    case aC4 => k_is
    case aC5 => k_is
    case aC6 => k_is
    case a8 => k_is
    case F8 => (refine' L2.fun_mk ?l ?c ?k; (case l => k_is); (case c => k_is); (case k => k_is))
    case a9 => k_is
    case F9 => (refine' L2.fun_mk ?l ?c ?k; (case l => k_is); (case c => k_is); (case k => k_is))
    case a10 => k_is
    case F10 => (refine' L2.fun_mk ?l ?c ?k; (case l => k_is); (case c => k_is); (case k => k_is))
    case a11 => k_is
    case F11 => (refine' L2.fun_mk ?l ?c ?k; (case l => k_is); (case c => k_is); (case k => k_is))
    case a12 => k_is
    case F12 => (refine' L2.fun_mk ?l ?c ?k; (case l => k_is); (case c => k_is); (case k => k_is))
    case a14 => k_is
    case F14 => (refine' L2.fun_mk ?l ?c ?k; (case l => k_is); (case c => k_is); (case k => k_is))
    case a15 => k_is
    case F15 => (refine' L2.fun_mk ?l ?c ?k; (case l => k_is); (case c => k_is); (case k => k_is))
    case a16 => k_is
    case F16 => (refine' L2.fun_mk ?l ?c ?k; (case l => k_is); (case c => k_is); (case k => k_is))
    case a17 => k_is
    case F17 => (refine' L2.fun_mk ?l ?c ?k; (case l => k_is); (case c => k_is); (case k => k_is))
    case a18 => k_is
    case F18 => (refine' L2.fun_mk ?l ?c ?k; (case l => k_is); (case c => k_is); (case k => k_is))
    case a19 => k_is
    case F19 => (refine' L2.fun_mk ?l ?c ?k; (case l => k_is); (case c => k_is); (case k => k_is))
    case a21 => k_is
    case F21 => (refine' L2.fun_mk ?l ?c ?k; (case l => k_is); (case c => k_is); (case k => k_is))
    case a22 => k_is
    case F22 => (refine' L2.fun_mk ?l ?c ?k; (case l => k_is); (case c => k_is); (case k => k_is))
    case a23 => k_is
    case F23 => (refine' L2.fun_mk ?l ?c ?k; (case l => k_is); (case c => k_is); (case k => k_is))
    case a25 => k_is
    case F25 => (refine' L2.fun_mk ?l ?c ?k; (case l => k_is); (case c => k_is); (case k => k_is))
    case a26 => k_is
    case F26 => (refine' L2.fun_mk ?l ?c ?k; (case l => k_is); (case c => k_is); (case k => k_is))
    case a27 => k_is
    case F27 => (refine' L2.fun_mk ?l ?c ?k; (case l => k_is); (case c => k_is); (case k => k_is))
    case a28 => k_is
    case F28 => (refine' L2.fun_mk ?l ?c ?k; (case l => k_is); (case c => k_is); (case k => k_is))
    case a29 => k_is
    case F29 => (refine' L2.fun_mk ?l ?c ?k; (case l => k_is); (case c => k_is); (case k => k_is))
    case a30 => k_is
    case F30 => (refine' L2.fun_mk ?l ?c ?k; (case l => k_is); (case c => k_is); (case k => k_is))
    case a31 => k_is
    case F31 => (refine' L2.fun_mk ?l ?c ?k; (case l => k_is); (case c => k_is); (case k => k_is))
    case a32 => k_is
    case F32 => (refine' L2.fun_mk ?l ?c ?k; (case l => k_is); (case c => k_is); (case k => k_is))
    case a33 => k_is
    case F33 => (refine' L2.fun_mk ?l ?c ?k; (case l => k_is); (case c => k_is); (case k => k_is))
    case a34 => k_is
    case F34 => (refine' L2.fun_mk ?l ?c ?k; (case l => k_is); (case c => k_is); (case k => k_is))
    case a35 => k_is
    case F35 => (refine' L2.fun_mk ?l ?c ?k; (case l => k_is); (case c => k_is); (case k => k_is))
    case a36 => k_is
    case F36 => (refine' L2.fun_mk ?l ?c ?k; (case l => k_is); (case c => k_is); (case k => k_is))
    case a37 => k_is
    case F37 => (refine' L2.fun_mk ?l ?c ?k; (case l => k_is); (case c => k_is); (case k => k_is))
    case a38 => k_is
    case F38 => (refine' L2.fun_mk ?l ?c ?k; (case l => k_is); (case c => k_is); (case k => k_is))
    case a39 => k_is
    case F39 => (refine' L2.fun_mk ?l ?c ?k; (case l => k_is); (case c => k_is); (case k => k_is))
    case a40 => k_is
    case F40 => (refine' L2.fun_mk ?l ?c ?k; (case l => k_is); (case c => k_is); (case k => k_is))
    case a41 => k_is
    case F41 => (refine' L2.fun_mk ?l ?c ?k; (case l => k_is); (case c => k_is); (case k => k_is))
    case a42 => k_is
    case F42 => (refine' L2.fun_mk ?l ?c ?k; (case l => k_is); (case c => k_is); (case k => k_is))
    case a43 => k_is
    case F43 => (refine' L2.fun_mk ?l ?c ?k; (case l => k_is); (case c => k_is); (case k => k_is))
    case a44 => k_is
    case F44 => (refine' L2.fun_mk ?l ?c ?k; (case l => k_is); (case c => k_is); (case k => k_is))
    case a45 => k_is
    case F45 => (refine' L2.fun_mk ?l ?c ?k; (case l => k_is); (case c => k_is); (case k => k_is))
    case a46 => k_is
    case F46 => (refine' L2.fun_mk ?l ?c ?k; (case l => k_is); (case c => k_is); (case k => k_is))
    case i4 => k_is
    case F1004 => (refine' L2.fun_mk ?l ?c ?k; (case l => k_is); (case c => k_is); (case k => k_is))
    case t1004 => k_is
    case i5 => k_is
    case F1005 => (refine' L2.fun_mk ?l ?c ?k; (case l => k_is); (case c => k_is); (case k => k_is))
    case t1005 => k_is
    case i6 => k_is
    case F1006 => (refine' L2.fun_mk ?l ?c ?k; (case l => k_is); (case c => k_is); (case k => k_is))
    case t1006 => k_is
    case o4 => (refine' Dn.oexC_of ?l ?x ?y ?z ?u; (case l => first | k_is | kernel_rfl); (case x => k_is); (case y => k_is); (case z => k_is); (case u => k_is))
    case q4 => (refine' ⟨?_, ?_, ?_, ?_⟩ <;> k_is)
    case z4 => (refine' ⟨?_, ?_, ?_, ?_, ?_, ?_, ?_, ?_⟩ <;> first | k_is | kernel_rfl)
    case n4_word => k_is
    case n4_at => k_is
    case e4_InvalidPaper => first | k_is | kernel_rfl
    case e4_NotUsable => first | k_is | kernel_rfl
    case e4_Unseen => first | k_is | kernel_rfl
    case o5 => (refine' Dn.oexC_of ?l ?x ?y ?z ?u; (case l => first | k_is | kernel_rfl); (case x => k_is); (case y => k_is); (case z => k_is); (case u => k_is))
    case q5 => (refine' ⟨?_, ?_, ?_, ?_⟩ <;> k_is)
    case z5 => (refine' ⟨?_, ?_, ?_, ?_, ?_, ?_, ?_, ?_⟩ <;> first | k_is | kernel_rfl)
    case n5_word => k_is
    case n5_at => k_is
    case e5_InvalidPaper => first | k_is | kernel_rfl
    case e5_NotUsable => first | k_is | kernel_rfl
    case e5_Unseen => first | k_is | kernel_rfl
    case o6 => (refine' Dn.oexC_of ?l ?x ?y ?z ?u; (case l => first | k_is | kernel_rfl); (case x => k_is); (case y => k_is); (case z => k_is); (case u => k_is))
    case q6 => (refine' ⟨?_, ?_, ?_, ?_⟩ <;> k_is)
    case z6 => (refine' ⟨?_, ?_, ?_, ?_, ?_, ?_, ?_, ?_⟩ <;> first | k_is | kernel_rfl)
    case n6_place => k_is
    case e6_InvalidPaper => first | k_is | kernel_rfl
    case e6_NotUsable => first | k_is | kernel_rfl
    case e6_Unseen => first | k_is | kernel_rfl
    case z_all => k_is
    case z_bool => k_is
    case z_enumerate => k_is
    case z_int => k_is
    case z_isinstance => k_is
    case z_len => k_is
    case z_list => k_is
    case z_range => k_is
    case z_reversed => k_is
    case z_sorted => k_is
    case z_str => k_is
    case z_tuple => k_is
    case z_zip => k_is
end
