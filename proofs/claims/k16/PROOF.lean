import PyProof.Rows.All
import Wide.All
import OpenK.AllK
import Wide.FinOn
import HandS.ForMost
import HandS.ForExc
import HandS.Walk
import HandS.ExcCtx
import HandS.HotCalls
import HandS.ExcInitHot
import HandS.Wide
import HandS.TupAny
import HandS.IsInst
import HandS.SortInts
import HandS.Deep
import HandS.Conv
import HandS.Rev
import HandS.RevRange
import HandS.Zip
import HandS.ExcInit
import HandS.ExcField
import HandS.ExcIs
import KE.KExcIs
import KE.GoesEnum
import KE.KRevIter
import HandS.Strs
import PySem.Challenge.RW_stoodthen_k16_whole_mesh_of_counts
section
set_option Elab.async false
set_option linter.all false
set_option maxRecDepth 100000
set_option maxHeartbeats 4000000
/-! Dn0: plain data, what stands for it in a heap, environments of a def, the state of a running def. -/
namespace Dn
open PySem PySem.Spec L2
open PyProof.Rows
/-- plain data -/
inductive D where
  | non | bl (b : Bool) | int (i : Int) | str (s : Str) | tup (xs : List D) | lst (xs : List D) | scr (xs : List D)
/-- data that is owned (its lists may still change), leaves: data that stays -/
inductive O where
  | d (x : D) | l (os : List O) | t (xs : List D)
abbrev Env := List (Option O)

mutual
/-- v stands for the data x, in the heap G of what stays -/
inductive Rep (K : PySem.W.Frag) (G : Hp) : V → D → Prop where
  | non : Rep K G .non .non
  | bl (b : Bool) : Rep K G (.bl b) (.bl b)
  | int (i : Int) : Rep K G (.int i) (.int i)
  | str (s : Str) : Rep K G (.str s) (.str s)
  | tup {a : Addr} {vs : List V} {xs : List D} : SqT K G a vs → Reps K G vs xs → Rep K G (.ref a) (.tup xs)
  | lst {a : Addr} {vs : List V} {xs : List D} : G a = some (.lst vs) → Reps K G vs xs → Rep K G (.ref a) (.lst xs)
  | scr {a : Addr} {vs : List V} {xs : List D} : SqL K G a vs → Reps K G vs xs → Rep K G (.ref a) (.scr xs)
inductive Reps (K : PySem.W.Frag) (G : Hp) : List V → List D → Prop where
  | nil : Reps K G [] []
  | cons {v : V} {x : D} {vs : List V} {xs : List D} : Rep K G v x → Reps K G vs xs → Reps K G (v :: vs) (x :: xs)
end
mutual
/-- v stands for the owned thing o, whose own lists are at fp -/
inductive ORep (K : PySem.W.Frag) (G H : Hp) : V → O → List Addr → Prop where
  | d {v : V} {x : D} : Rep K G v x → ORep K G H v (.d x) []
  | l {a : Addr} {vs : List V} {os : List O} {fp : List Addr} : H a = some (.lst vs) → G a = none → OReps K G H vs os fp → ORep K G H (.ref a) (.l os) (a :: fp)
  | t {a : Addr} {ob : Obj} {vs : List V} {xs : List D} : G a = some (.frz ob (.tup vs)) → ob.dict = none → Reps K G vs xs → ORep K G H (.ref a) (.t xs) []
inductive OReps (K : PySem.W.Frag) (G H : Hp) : List V → List O → List Addr → Prop where
  | nil : OReps K G H [] [] []
  | cons {v : V} {o : O} {f : List Addr} {vs : List V} {os : List O} {fp : List Addr} : ORep K G H v o f → OReps K G H vs os fp → OReps K G H (v :: vs) (o :: os) (f ++ fp)
end
/-- slots and what is known of them -/
inductive Cells (K : PySem.W.Frag) (G H : Hp) : List (Option V) → List (Option O) → List Addr → Prop where
  | nil : Cells K G H [] [] []
  | skip {v : Option V} {vs : List (Option V)} {os : List (Option O)} {fp : List Addr} : Cells K G H vs os fp → Cells K G H (v :: vs) (none :: os) fp
  | cons {v : V} {o : O} {f : List Addr} {vs : List (Option V)} {os : List (Option O)} {fp : List Addr} : ORep K G H v o f → Cells K G H vs os fp → Cells K G H (some v :: vs) (some o :: os) (f ++ fp)

def Sub (G H : Hp) : Prop := ∀ a o, G a = some o → H a = some o
theorem Sub.refl (G : Hp) : Sub G G := fun _ _ h => h
theorem Sub.trans {A B C : Hp} (h : Sub A B) (g : Sub B C) : Sub A C := fun a o e => g a o (h a o e)
theorem Sub.sqL {K : PySem.W.Frag} {G H : Hp} {a : Addr} {xs : List V} (e : Sub G H) (h : SqL K G a xs) : SqL K H a xs := by
  rcases h with (h | ⟨o, h⟩) | h
  · exact .inl (.inl (e _ _ h))
  · exact .inl (.inr ⟨o, e _ _ h⟩)
  · exact .inr h
theorem Sub.sqT {K : PySem.W.Frag} {G H : Hp} {a : Addr} {xs : List V} (e : Sub G H) (h : SqT K G a xs) : SqT K H a xs := by
  rcases h with (h | ⟨o, h⟩) | h
  · exact .inl (.inl (e _ _ h))
  · exact .inl (.inr ⟨o, e _ _ h⟩)
  · exact .inr h

section
variable {K : PySem.W.Frag} {G G' H H' : Hp}
mutual
theorem Rep.mono (e : Sub G G') : ∀ {v : V} {x : D}, Rep K G v x → Rep K G' v x
  | _, _, .non => .non
  | _, _, .bl b => .bl b
  | _, _, .int i => .int i
  | _, _, .str s => .str s
  | _, _, .tup h r => .tup (e.sqT h) (Reps.mono e r)
  | _, _, .lst h r => .lst (e _ _ h) (Reps.mono e r)
  | _, _, .scr h r => .scr (e.sqL h) (Reps.mono e r)
theorem Reps.mono (e : Sub G G') : ∀ {vs : List V} {xs : List D}, Reps K G vs xs → Reps K G' vs xs
  | _, _, .nil => .nil
  | _, _, .cons h r => .cons (Rep.mono e h) (Reps.mono e r)
end
/-- G and H change to G' and H', but at fp all is as it was -/
def Keep (G H G' H' : Hp) (fp : List Addr) : Prop := Sub G G' ∧ ∀ a ∈ fp, H' a = H a ∧ (G a = none → G' a = none)
theorem Keep.left {a b : List Addr} (h : Keep G H G' H' (a ++ b)) : Keep G H G' H' a := ⟨h.1, fun x m => h.2 x (List.mem_append_left _ m)⟩
theorem Keep.right {a b : List Addr} (h : Keep G H G' H' (a ++ b)) : Keep G H G' H' b := ⟨h.1, fun x m => h.2 x (List.mem_append_right _ m)⟩
theorem Keep.tail {a : Addr} {b : List Addr} (h : Keep G H G' H' (a :: b)) : Keep G H G' H' b := ⟨h.1, fun x m => h.2 x (List.mem_cons_of_mem _ m)⟩
mutual
theorem ORep.keep : ∀ {v : V} {o : O} {fp : List Addr}, Keep G H G' H' fp → ORep K G H v o fp → ORep K G' H' v o fp
  | _, _, _, k, .d r => .d (r.mono k.1)
  | _, _, _, k, .t h g r => .t (k.1 _ _ h) g (r.mono k.1)
  | _, _, _, k, .l h g r => .l (((k.2 _ List.mem_cons_self).1).trans h) ((k.2 _ List.mem_cons_self).2 g) (OReps.keep k.tail r)
theorem OReps.keep : ∀ {v : List V} {o : List O} {fp : List Addr}, Keep G H G' H' fp → OReps K G H v o fp → OReps K G' H' v o fp
  | _, _, _, k, .nil => .nil
  | _, _, _, k, .cons h r => .cons (ORep.keep k.left h) (OReps.keep k.right r)
end
theorem Cells.keep : ∀ {v : List (Option V)} {o : List (Option O)} {fp : List Addr}, Keep G H G' H' fp → Cells K G H v o fp → Cells K G' H' v o fp
  | _, _, _, k, .nil => .nil
  | _, _, _, k, .skip r => .skip (Cells.keep k r)
  | _, _, _, k, .cons h r => .cons (ORep.keep k.left h) (Cells.keep k.right r)
/-! what is owned stands in H, not in G -/
mutual
theorem ORep.own : ∀ {v : V} {o : O} {fp : List Addr}, ORep K G H v o fp → ∀ a ∈ fp, (∃ xs, H a = some (.lst xs)) ∧ G a = none
  | _, _, _, .d _, _, m => by cases m
  | _, _, _, .t _ _ _, _, m => by cases m
  | _, _, _, .l h g r, a, m => by
    rcases List.mem_cons.mp m with rfl | m
    · exact ⟨⟨_, h⟩, g⟩
    · exact OReps.own r a m
theorem OReps.own : ∀ {v : List V} {o : List O} {fp : List Addr}, OReps K G H v o fp → ∀ a ∈ fp, (∃ xs, H a = some (.lst xs)) ∧ G a = none
  | _, _, _, .nil, _, m => by cases m
  | _, _, _, .cons h r, a, m => by
    rcases List.mem_append.mp m with m | m
    · exact ORep.own h a m
    · exact OReps.own r a m
end
theorem Cells.own : ∀ {v : List (Option V)} {o : List (Option O)} {fp : List Addr}, Cells K G H v o fp → ∀ a ∈ fp, (∃ xs, H a = some (.lst xs)) ∧ G a = none
  | _, _, _, .nil, _, m => by cases m
  | _, _, _, .skip r, a, m => Cells.own r a m
  | _, _, _, .cons h r, a, m => by
    rcases List.mem_append.mp m with m | m
    · exact ORep.own h a m
    · exact Cells.own r a m
/-! ### to freeze -/
mutual
def frz : O → D
  | .d x => x
  | .l os => .lst (frzs os)
  | .t xs => .tup xs
def frzs : List O → List D
  | [] => []
  | o :: r => frz o :: frzs r
end
/-- G with what stands in H at fp -/
def join (G H : Hp) (fp : List Addr) : Hp := fun a => if a ∈ fp then H a else G a
theorem join_in {fp : List Addr} {a : Addr} (h : a ∈ fp) : join G H fp a = H a := if_pos h
theorem join_out {fp : List Addr} {a : Addr} (h : a ∉ fp) : join G H fp a = G a := if_neg h
theorem join_nil : join G H [] = G := by
  funext a
  exact if_neg (by simp)
theorem Sub.join {fp : List Addr} (h : ∀ a ∈ fp, G a = none) : Sub G (join G H fp) := fun a o e => by
  by_cases m : a ∈ fp
  · rw [h a m] at e
    cases e
  · rw [join_out m]
    exact e
mutual
theorem ORep.frz (e : Sub G G') : ∀ {v : V} {o : O} {fp : List Addr}, (∀ a ∈ fp, G' a = H a) → ORep K G H v o fp → Rep K G' v (Dn.frz o)
  | _, _, _, k, .d r => r.mono e
  | _, _, _, k, .t h g r => .tup (.inl (.inr ⟨_, e _ _ h⟩)) (r.mono e)
  | _, _, _, k, .l h g r => .lst ((k _ List.mem_cons_self).trans h) (OReps.frz e (fun a m => k a (List.mem_cons_of_mem _ m)) r)
theorem OReps.frz (e : Sub G G') : ∀ {v : List V} {o : List O} {fp : List Addr}, (∀ a ∈ fp, G' a = H a) → OReps K G H v o fp → Reps K G' v (frzs o)
  | _, _, _, k, .nil => .nil
  | _, _, _, k, .cons h r => .cons (ORep.frz e (fun a m => k a (List.mem_append_left _ m)) h) (OReps.frz e (fun a m => k a (List.mem_append_right _ m)) r)
end
end
/-! ### lists of slots -/
section
variable {K : PySem.W.Frag} {G H : Hp}
theorem Cells.length : ∀ {v : List (Option V)} {o : List (Option O)} {fp : List Addr}, Cells K G H v o fp → v.length = o.length
  | _, _, _, .nil => rfl
  | _, _, _, .skip r => congrArg (· + 1) r.length
  | _, _, _, .cons _ r => congrArg (· + 1) r.length
theorem OReps.length : ∀ {v : List V} {o : List O} {fp : List Addr}, OReps K G H v o fp → v.length = o.length
  | _, _, _, .nil => rfl
  | _, _, _, .cons _ r => congrArg (· + 1) r.length
theorem Reps.length : ∀ {v : List V} {o : List D}, Reps K G v o → v.length = o.length
  | _, _, .nil => rfl
  | _, _, .cons _ r => congrArg (· + 1) r.length
/-- a slot is taken out -/
theorem Cells.take : ∀ {i : Nat} {vs : List (Option V)} {os : List (Option O)} {fp : List Addr} {o : O}, Cells K G H vs os fp → os[i]? = some (some o) →
    ∃ v f fr, vs[i]? = some (some v) ∧ ORep K G H v o f ∧ Cells K G H vs (os.set i none) fr ∧ fp.Perm (f ++ fr)
  | _, _, _, _, _, .nil, h => by simp at h
  | 0, _, _, _, _, .skip _, h => by simp at h
  | 0, _, _, _, _, .cons (v := v) q r, h => by
    have e := Option.some.inj (Option.some.inj h)
    subst e
    exact ⟨v, _, _, rfl, q, .skip r, .refl _⟩
  | i + 1, _, _, _, _, .skip r, h => by
    obtain ⟨v, f, fr, h1, h2, h3, h4⟩ := r.take (i := i) (by simpa using h)
    exact ⟨v, f, fr, by simpa using h1, h2, .skip h3, h4⟩
  | i + 1, _, _, _, _, .cons (f := f0) q r, h => by
    obtain ⟨v, f, fr, h1, h2, h3, h4⟩ := r.take (i := i) (by simpa using h)
    refine ⟨v, f, f0 ++ fr, by simpa using h1, h2, .cons q h3, ?_⟩
    refine (List.Perm.append_left f0 h4).trans ?_
    rw [← List.append_assoc, ← List.append_assoc]
    exact List.Perm.append_right _ List.perm_append_comm
/-- a slot is filled -/
theorem Cells.put : ∀ {i : Nat} {vs : List (Option V)} {os : List (Option O)} {fr f : List Addr} {v : V} {o : O}, Cells K G H vs os fr → ORep K G H v o f → i < vs.length → os[i]? = some none →
    ∃ fp, Cells K G H (vs.set i (some v)) (os.set i (some o)) fp ∧ fp.Perm (f ++ fr)
  | _, _, _, _, _, _, _, .nil, _, h, _ => by simp at h
  | 0, _, _, _, _, _, _, .skip r, q, _, _ => ⟨_, .cons q r, .refl _⟩
  | 0, _, _, _, _, _, _, .cons _ _, _, _, h => by simp at h
  | i + 1, _, _, _, _, _, _, .skip r, q, hi, h => by
    obtain ⟨fp, h1, h2⟩ := r.put (i := i) q (by simpa using hi) (by simpa using h)
    exact ⟨fp, .skip h1, h2⟩
  | i + 1, _, _, _, f, _, _, .cons (f := f0) q0 r, q, hi, h => by
    obtain ⟨fp, h1, h2⟩ := r.put (i := i) q (by simpa using hi) (by simpa using h)
    refine ⟨f0 ++ fp, .cons q0 h1, ?_⟩
    refine (List.Perm.append_left f0 h2).trans ?_
    rw [← List.append_assoc, ← List.append_assoc]
    exact List.Perm.append_right _ List.perm_append_comm
/-- a slot is forgotten -/
theorem Cells.clear : ∀ {i : Nat} {vs : List (Option V)} {os : List (Option O)} {fp : List Addr} (y : Option V), Cells K G H vs os fp → ∃ fr, Cells K G H (vs.set i y) (os.set i none) fr ∧ fr.Sublist fp
  | _, _, _, _, _, .nil => ⟨[], .nil, .refl _⟩
  | 0, _, _, _, _, .skip r => ⟨_, .skip r, .refl _⟩
  | 0, _, _, _, _, .cons q r => ⟨_, .skip r, List.sublist_append_right _ _⟩
  | i + 1, _, _, _, y, .skip r => by
    obtain ⟨fr, h1, h2⟩ := r.clear (i := i) y
    exact ⟨fr, .skip h1, h2⟩
  | i + 1, _, _, _, y, .cons (f := f0) q r => by
    obtain ⟨fr, h1, h2⟩ := r.clear (i := i) y
    exact ⟨f0 ++ fr, .cons q h1, List.Sublist.append (List.Sublist.refl f0) h2⟩
end
/-! ### the state of a running def -/
/-- what stood at the entry: all, what stays, what the def may change; pin: slots that keep their value -/
structure Ctx where
  H0 : Hp
  G0 : Hp
  P : List Addr
  pin : Nat → Option V
structure Wd (Γ : Ctx) (G H : Hp) : Prop where
  sub : Sub G H
  ext : Sub Γ.G0 G
  fr : ∀ a, Γ.H0 a ≠ none → a ∉ Γ.P → H a = Γ.H0 a ∧ G a = Γ.G0 a
def Mine (Γ : Ctx) (fp : List Addr) : Prop := ∀ a ∈ fp, a ∈ Γ.P ∨ Γ.H0 a = none
structure R (K : PySem.W.Frag) (Γ : Ctx) (σ : List (Option V)) (env : Env) (τ : List (Option V)) (stk : Env) (G H : Hp) : Prop where
  wd : Wd Γ G H
  pin : ∀ i v, Γ.pin i = some v → σ[i]? = some (some v)
  ex : ∃ f1 f2, Cells K G H σ env f1 ∧ Cells K G H τ stk f2 ∧ (f1 ++ f2).Nodup ∧ Mine Γ (f1 ++ f2)
section
variable {K : PySem.W.Frag} {Γ : Ctx} {σ : List (Option V)} {env : Env} {τ : List (Option V)} {stk : Env} {G H : Hp}
/-- p is laid, the rest is as it was -/
theorem Keep.laid {p : Addr} {o : HO} {fp : List Addr} (hp : H p = none) (hf : ∀ a ∈ fp, ∃ x, H a = some x) : Keep G H G (upd H p o) fp := ⟨Sub.refl G, fun a m => ⟨by
  obtain ⟨x, e⟩ := hf a m
  rw [upd_ne (ne_of_none e hp)], fun z => z⟩⟩
theorem Wd.laid {p : Addr} {o : HO} (w : Wd Γ G H) (hp : H p = none) : Wd Γ G (upd H p o) where
  sub := fun a x e => by
    rw [upd_ne (ne_of_none (w.sub a x e) hp)]
    exact w.sub a x e
  ext := w.ext
  fr := fun a h m => by
    have q := w.fr a h m
    have ne : a ≠ p := fun z => by
      rw [z, hp] at q
      rw [z] at h
      exact h q.1.symm
    rw [upd_ne ne]
    exact q
/-- what is fresh or owned is no part of what was told at the entry -/
theorem Wd.grow {fp : List Addr} (w : Wd Γ G H) (m : Mine Γ fp) (g : ∀ a ∈ fp, G a = none) : Wd Γ (join G H fp) H where
  sub := fun a x e => by
    by_cases h : a ∈ fp
    · rw [join_in h] at e
      exact e
    · rw [join_out h] at e
      exact w.sub a x e
  ext := w.ext.trans (Sub.join g)
  fr := fun a h nm => by
    have q := w.fr a h nm
    have ne : a ∉ fp := fun z => by
      rcases m a z with z | z
      · exact nm z
      · exact h z
    rw [join_out ne]
    exact q
theorem Mine.of_fresh {p : Addr} (w : Wd Γ G H) (hp : H p = none) : p ∈ Γ.P ∨ Γ.H0 p = none := by
  by_cases h : p ∈ Γ.P
  · exact .inl h
  · refine .inr ?_
    cases e : Γ.H0 p with
    | none => rfl
    | some o =>
      have q := (w.fr p (by rw [e]; exact fun z => by cases z) h).1
      rw [hp, e] at q
      cases q
theorem R.owned (r : R K Γ σ env τ stk G H) : ∃ f1 f2, Cells K G H σ env f1 ∧ Cells K G H τ stk f2 ∧ (f1 ++ f2).Nodup ∧ Mine Γ (f1 ++ f2) ∧ ∀ a ∈ f1 ++ f2, (∃ x, H a = some x) ∧ G a = none := by
  obtain ⟨f1, f2, c, s, n, m⟩ := r.ex
  refine ⟨f1, f2, c, s, n, m, fun a h => ?_⟩
  rcases List.mem_append.mp h with h | h
  · obtain ⟨⟨x, e⟩, g⟩ := c.own a h
    exact ⟨⟨_, e⟩, g⟩
  · obtain ⟨⟨x, e⟩, g⟩ := s.own a h
    exact ⟨⟨_, e⟩, g⟩
/-- a thing that stays is laid by -/
theorem R.pushD {v : V} {x : D} (r : R K Γ σ env τ stk G H) (h : Rep K G v x) : R K Γ σ env (some v :: τ) (some (.d x) :: stk) G H := by
  obtain ⟨f1, f2, c, s, n, m⟩ := r.ex
  exact ⟨r.wd, r.pin, f1, [] ++ f2, c, .cons (.d h) s, by simpa using n, by simpa using m⟩
theorem R.pop {v : V} {o : O} (r : R K Γ σ env (some v :: τ) (some o :: stk) G H) : R K Γ σ env τ stk G H := by
  obtain ⟨f1, f2, c, s, n, m⟩ := r.ex
  cases s with
  | @cons _ _ fa _ _ fb q s =>
    have sl : (f1 ++ fb).Sublist (f1 ++ (fa ++ fb)) := List.Sublist.append (List.Sublist.refl _) (List.sublist_append_right _ _)
    exact ⟨r.wd, r.pin, f1, fb, c, s, n.sublist sl, fun a h => m a (sl.subset h)⟩
/-- the thing on top -/
theorem R.top {v : V} {o : O} (r : R K Γ σ env (some v :: τ) (some o :: stk) G H) : ∃ f, ORep K G H v o f := by
  obtain ⟨f1, f2, c, s, n, m⟩ := r.ex
  cases s with
  | cons q s => exact ⟨_, q⟩
theorem R.topD {v : V} {x : D} (r : R K Γ σ env (some v :: τ) (some (.d x) :: stk) G H) : Rep K G v x := by
  obtain ⟨f, h⟩ := r.top
  cases h with
  | d h => exact h
/-- what is known of a slot -/
theorem R.slot {i : Nat} {o : O} (r : R K Γ σ env τ stk G H) (h : env[i]? = some (some o)) : ∃ v f, σ[i]? = some (some v) ∧ ORep K G H v o f := by
  obtain ⟨f1, f2, c, s, n, m⟩ := r.ex
  obtain ⟨v, f, fr, h1, h2, h3, h4⟩ := c.take h
  exact ⟨v, f, h1, h2⟩
theorem R.slotD {i : Nat} {x : D} (r : R K Γ σ env τ stk G H) (h : env[i]? = some (some (.d x))) : ∃ v, σ[i]? = some (some v) ∧ Rep K G v x := by
  obtain ⟨v, f, e, q⟩ := r.slot h
  cases q with
  | d q => exact ⟨v, e, q⟩
theorem R.len (r : R K Γ σ env τ stk G H) : σ.length = env.length := by
  obtain ⟨f1, f2, c, _⟩ := r.ex
  exact c.length
/-- a slot's thing is moved to the top -/
theorem R.move {i : Nat} {o : O} (r : R K Γ σ env τ stk G H) (h : env[i]? = some (some o)) : ∃ v, σ[i]? = some (some v) ∧ R K Γ σ (env.set i none) (some v :: τ) (some o :: stk) G H := by
  obtain ⟨f1, f2, c, s, n, m⟩ := r.ex
  obtain ⟨v, f, fr, h1, h2, h3, h4⟩ := c.take h
  have pm : (f1 ++ f2).Perm (fr ++ (f ++ f2)) := by
    refine (List.Perm.append_right f2 h4).trans ?_
    rw [← List.append_assoc]
    exact List.Perm.append_right _ List.perm_append_comm
  exact ⟨v, h1, r.wd, r.pin, fr, f ++ f2, h3, .cons h2 s, pm.nodup_iff.mp n, fun a q => m a (pm.mem_iff.mpr q)⟩
/-- the top is stored -/
theorem R.store {i : Nat} {v : V} {o : O} (r : R K Γ σ env (some v :: τ) (some o :: stk) G H) (hi : i < env.length) (hp : Γ.pin i = none) : R K Γ (σ.set i (some v)) (env.set i (some o)) τ stk G H := by
  obtain ⟨f1, f2, c, s, n, m⟩ := r.ex
  cases s with
  | @cons _ _ fa _ _ fb q s =>
    obtain ⟨fr, c1, sl⟩ := c.clear (i := i) none
    have hl := c.length
    obtain ⟨fp, c2, pm⟩ := c1.put (i := i) q (by rw [List.length_set]; omega) (by simp [hi])
    rw [List.set_set, List.set_set] at c2
    have p2 : (fp ++ fb).Perm (fr ++ (fa ++ fb)) := by
      refine (List.Perm.append_right fb pm).trans ?_
      rw [← List.append_assoc]
      exact List.Perm.append_right _ List.perm_append_comm
    have sl2 : (fr ++ (fa ++ fb)).Sublist (f1 ++ (fa ++ fb)) := List.Sublist.append sl (List.Sublist.refl _)
    refine ⟨r.wd, fun j w e => ?_, fp, fb, c2, s, p2.nodup_iff.mpr (n.sublist sl2), fun a h => m a (sl2.subset (p2.mem_iff.mp h))⟩
    have ne : i ≠ j := fun z => by
      rw [z, e] at hp
      cases hp
    rw [List.getElem?_set_ne ne]
    exact r.pin j w e
/-- the top is moved back to the slot it came from -/
theorem R.back {i : Nat} {v : V} {o : O} (r : R K Γ σ env (some v :: τ) (some o :: stk) G H) (hi : σ[i]? = some (some v)) : R K Γ σ (env.set i (some o)) τ stk G H := by
  have hl := r.len
  have hlt : i < σ.length := (List.getElem?_eq_some_iff.mp hi).1
  obtain ⟨f1, f2, c, s, n, m⟩ := r.ex
  have es : σ.set i (some v) = σ := by
    apply List.ext_getElem?
    intro j
    by_cases h : i = j
    · subst h
      rw [List.getElem?_set_self hlt]
      exact hi.symm
    · rw [List.getElem?_set_ne h]
  cases s with
  | @cons _ _ fa _ _ fb q s =>
    obtain ⟨fr, c1, sl⟩ := c.clear (i := i) none
    obtain ⟨fp, c2, pm⟩ := c1.put (i := i) q (by rw [List.length_set]; omega) (by simp [← hl, hlt])
    rw [List.set_set, List.set_set, es] at c2
    have p2 : (fp ++ fb).Perm (fr ++ (fa ++ fb)) := by
      refine (List.Perm.append_right fb pm).trans ?_
      rw [← List.append_assoc]
      exact List.Perm.append_right _ List.perm_append_comm
    have sl2 : (fr ++ (fa ++ fb)).Sublist (f1 ++ (fa ++ fb)) := List.Sublist.append sl (List.Sublist.refl _)
    exact ⟨r.wd, r.pin, fp, fb, c2, s, p2.nodup_iff.mpr (n.sublist sl2), fun a h => m a (sl2.subset (p2.mem_iff.mp h))⟩
/-- the top is frozen -/
theorem R.frz {v : V} {o : O} (r : R K Γ σ env (some v :: τ) (some o :: stk) G H) : ∃ G', R K Γ σ env (some v :: τ) (some (.d (Dn.frz o)) :: stk) G' H := by
  obtain ⟨f1, f2, c, s, n, m⟩ := r.ex
  cases s with
  | @cons _ _ fa _ _ fb q s =>
    have gn : ∀ a ∈ fa, G a = none := fun a h => (q.own a h).2
    have ma : Mine Γ fa := fun a h => m a (List.mem_append_right _ (List.mem_append_left _ h))
    have nd := List.nodup_append.mp n
    have nd2 := List.nodup_append.mp nd.2.1
    have k1 : Keep G H (join G H fa) H f1 := ⟨Sub.join gn, fun a h => ⟨rfl, fun z => by
      rw [join_out (fun y => nd.2.2 a h a (List.mem_append_left _ y) rfl)]
      exact z⟩⟩
    have k2 : Keep G H (join G H fa) H fb := ⟨Sub.join gn, fun a h => ⟨rfl, fun z => by
      rw [join_out (fun y => nd2.2.2 a y a h rfl)]
      exact z⟩⟩
    have sl : (f1 ++ ([] ++ fb)).Sublist (f1 ++ (fa ++ fb)) := List.Sublist.append (List.Sublist.refl _) (List.sublist_append_right _ _)
    exact ⟨join G H fa, r.wd.grow ma gn, r.pin, f1, [] ++ fb, c.keep k1, .cons (.d (q.frz (Sub.join gn) fun a h => join_in h)) (s.keep k2), n.sublist sl, fun a h => m a (sl.subset h)⟩
/-- the top of a stack, the rest -/
theorem Cells.split : ∀ {vs : List (Option V)} {os : Env} {f : List Addr}, vs.length = os.length → Cells K G H (vs ++ τ) (os ++ stk) f → ∃ fa fb, f = fa ++ fb ∧ Cells K G H vs os fa ∧ Cells K G H τ stk fb
  | [], [], f, _, q => ⟨[], f, rfl, .nil, q⟩
  | [], _ :: _, _, h, _ => by cases h
  | _ :: _, [], _, h, _ => by cases h
  | _ :: _, none :: _, _, h, .skip q => by
    obtain ⟨fa, fb, e, h1, h2⟩ := Cells.split (Nat.succ.inj h) q
    exact ⟨fa, fb, e, .skip h1, h2⟩
  | _ :: _, some _ :: _, _, h, .cons q q2 => by
    obtain ⟨fa, fb, e, h1, h2⟩ := Cells.split (Nat.succ.inj h) q2
    subst e
    exact ⟨_ ++ fa, fb, (List.append_assoc _ _ _).symm, .cons q h1, h2⟩
theorem Cells.append : ∀ {vs : List (Option V)} {os : Env} {fa fb : List Addr}, Cells K G H vs os fa → Cells K G H τ stk fb → Cells K G H (vs ++ τ) (os ++ stk) (fa ++ fb)
  | _, _, _, _, .nil, q => q
  | _, _, _, _, .skip r, q => .skip (r.append q)
  | _, _, _, _, .cons h r, q => by
    rw [List.append_assoc]
    exact .cons h (r.append q)
theorem Cells.reps : ∀ {vs : List V} {os : List O} {f : List Addr}, Cells K G H (vs.map some) (os.map some) f → OReps K G H vs os f
  | [], [], _, .nil => .nil
  | _ :: _, _ :: _, _, .cons h r => .cons h r.reps
theorem OReps.cells : ∀ {vs : List V} {os : List O} {f : List Addr}, OReps K G H vs os f → Cells K G H (vs.map some) (os.map some) f
  | [], [], _, .nil => .nil
  | _ :: _, _ :: _, _, .cons h r => .cons h r.cells
/-- a new own list of what lies on top -/
theorem R.newL {p : Addr} {vs : List V} {os : List O} (r : R K Γ σ env (vs.map some ++ τ) (os.map some ++ stk) G H) (hl : vs.length = os.length) (hp : H p = none) : R K Γ σ env (some (.ref p) :: τ) (some (.l os) :: stk) G (upd H p (.lst vs)) := by
  obtain ⟨f1, f2, c, s, n, m, ow⟩ := r.owned
  obtain ⟨fa, fb, e, h1', h2⟩ := s.split (by simpa using hl)
  have h1 := h1'.reps
  subst e
  have gp : G p = none := by
    cases e : G p with
    | none => rfl
    | some x =>
      rw [r.wd.sub p x e] at hp
      cases hp
  have kp : ∀ f : List Addr, (∀ a ∈ f, a ∈ f1 ++ (fa ++ fb)) → Keep G H G (upd H p (.lst vs)) f := fun f hf => Keep.laid hp fun a h => (ow a (hf a h)).1
  have np : p ∉ f1 ++ (fa ++ fb) := fun z => by
    obtain ⟨⟨x, e⟩, _⟩ := ow p z
    rw [hp] at e
    cases e
  have pm : (f1 ++ ((p :: fa) ++ fb)).Perm (p :: (f1 ++ (fa ++ fb))) := by
    show (f1 ++ (p :: (fa ++ fb))).Perm _
    exact List.perm_middle
  refine ⟨r.wd.laid hp, r.pin, f1, (p :: fa) ++ fb, c.keep (kp _ fun a h => List.mem_append_left _ h), .cons (.l upd_same gp (h1.keep (kp _ fun a h => List.mem_append_right _ (List.mem_append_left _ h)))) (h2.keep (kp _ fun a h => List.mem_append_right _ (List.mem_append_right _ h))), pm.nodup_iff.mpr (List.nodup_cons.mpr ⟨np, n⟩), fun a h => ?_⟩
  rcases List.mem_cons.mp (pm.mem_iff.mp h) with rfl | h
  · exact Mine.of_fresh r.wd hp
  · exact m a h
/-- the one under the top part comes to the top -/
theorem R.rot {vs : List (Option V)} {os : Env} {v : Option V} {o : Option O} (r : R K Γ σ env (vs ++ v :: τ) (os ++ o :: stk) G H) (hl : vs.length = os.length) : R K Γ σ env (v :: (vs ++ τ)) (o :: (os ++ stk)) G H := by
  obtain ⟨f1, f2, c, s, n, m⟩ := r.ex
  obtain ⟨fa, fb, e, h1, h2⟩ := s.split hl
  subst e
  cases h2 with
  | skip h2 => exact ⟨r.wd, r.pin, f1, fa ++ fb, c, .skip (h1.append h2), n, m⟩
  | @cons _ _ f _ _ fc q h2 =>
    have pm : (f1 ++ (fa ++ (f ++ fc))).Perm (f1 ++ (f ++ (fa ++ fc))) := by
      refine List.Perm.append_left f1 ?_
      rw [← List.append_assoc, ← List.append_assoc]
      exact List.Perm.append_right _ List.perm_append_comm
    exact ⟨r.wd, r.pin, f1, f ++ (fa ++ fc), c, .cons q (h1.append h2), pm.nodup_iff.mp n, fun a h => m a (pm.mem_iff.mpr h)⟩
/-- any cell on top -/
theorem R.pop1 {v : Option V} {o : Option O} (r : R K Γ σ env (v :: τ) (o :: stk) G H) : R K Γ σ env τ stk G H := by
  obtain ⟨f1, f2, c, s, n, m⟩ := r.ex
  cases s with
  | skip s => exact ⟨r.wd, r.pin, f1, f2, c, s, n, m⟩
  | @cons _ _ fa _ _ fb q s =>
    have sl : (f1 ++ fb).Sublist (f1 ++ (fa ++ fb)) := List.Sublist.append (List.Sublist.refl _) (List.sublist_append_right _ _)
    exact ⟨r.wd, r.pin, f1, fb, c, s, n.sublist sl, fun a h => m a (sl.subset h)⟩
theorem R.popN : ∀ {vs : List (Option V)} {os : Env}, vs.length = os.length → R K Γ σ env (vs ++ τ) (os ++ stk) G H → R K Γ σ env τ stk G H
  | [], [], _, r => r
  | [], _ :: _, h, _ => by cases h
  | _ :: _, [], h, _ => by cases h
  | _ :: _, _ :: _, h, r => R.popN (Nat.succ.inj h) (R.pop1 r)
/-- a new thing that stays -/
theorem R.newG {p : Addr} {o : HO} (r : R K Γ σ env τ stk G H) (hp : H p = none) : R K Γ σ env τ stk (upd G p o) (upd H p o) ∧ Sub G (upd G p o) := by
  obtain ⟨f1, f2, c, s, n, m, ow⟩ := r.owned
  have gp : G p = none := by
    cases e : G p with
    | none => rfl
    | some x =>
      rw [r.wd.sub p x e] at hp
      cases hp
  have sg : Sub G (upd G p o) := fun a x e => by
    rw [upd_ne (ne_of_none e gp)]
    exact e
  have kp : ∀ f : List Addr, (∀ a ∈ f, a ∈ f1 ++ f2) → Keep G H (upd G p o) (upd H p o) f := fun f hf => ⟨sg, fun a h => by
    obtain ⟨⟨x, e⟩, g⟩ := ow a (hf a h)
    rw [upd_ne (ne_of_none e hp), upd_ne (ne_of_none e hp)]
    exact ⟨rfl, fun z => z⟩⟩
  have w : Wd Γ (upd G p o) (upd H p o) := {
    sub := fun a x e => by
      by_cases h : a = p
      · subst h
        rw [upd_same] at e
        rw [upd_same]
        exact e
      · rw [upd_ne h] at e
        rw [upd_ne h]
        exact r.wd.sub a x e
    ext := r.wd.ext.trans sg
    fr := fun a h nm => by
      have q := r.wd.fr a h nm
      have ne : a ≠ p := fun z => by
        rw [z, hp] at q
        rw [z] at h
        exact h q.1.symm
      rw [upd_ne ne, upd_ne ne]
      exact q }
  exact ⟨⟨w, r.pin, f1, f2, c.keep (kp _ fun a h => List.mem_append_left _ h), s.keep (kp _ fun a h => List.mem_append_right _ h), n, m⟩, sg⟩
/-- a new thing that nobody asks for -/
theorem R.laid {p : Addr} {o : HO} (r : R K Γ σ env τ stk G H) (hp : H p = none) : R K Γ σ env τ stk G (upd H p o) := by
  obtain ⟨f1, f2, c, s, n, m, ow⟩ := r.owned
  exact ⟨r.wd.laid hp, r.pin, f1, f2, c.keep (Keep.laid hp fun a h => (ow a (List.mem_append_left _ h)).1), s.keep (Keep.laid hp fun a h => (ow a (List.mem_append_right _ h)).1), n, m⟩
end
end Dn
end
section
set_option Elab.async false
set_option linter.all false
set_option maxRecDepth 100000
set_option maxHeartbeats 4000000
/-! Dn1: what expressions and statements are worth (denotations), and what it means that a reading keeps to one. -/
namespace Dn
open PySem PySem.Spec L2
open PyProof.Rows hiding St
/-- an own exception: its class's name, its fields -/
structure Exc where
  cls : Str
  fs : List (Str × D)
inductive Rs (α : Type) where
  | ok (a : α) (e : Env) | exc (x : Exc) (e : Env) | fail
/-- what a statement ends with -/
inductive SR where
  | nx (e : Env) | rt (o : O) (e : Env) | bk (e : Env) | ct (e : Env) | exc (x : Exc) (e : Env) | fail
/-- what a def ends with; as: what its arguments are behind it -/
inductive FR where
  | ok (o : O) (as : Env) | exc (x : Exc) (as : Env) | fail
abbrev ME := Env → Rs O
abbrev MS := Env → SR
/-- an operand: a name that is only looked at, or an expression -/
inductive AK where
  | nm (i : Nat) | ex (m : ME)
def XRep (K : PySem.W.Frag) (mg : Str → Option Value) (G H : Hp) (x : Exc) (c : Value) (d : Option Addr) : Prop :=
  ∃ (C dd : Addr) (fs : List (Str × V)), c = .ref C ∧ mg x.cls = some (.ref C) ∧ d = some dd ∧ G dd = some (.xd fs) ∧ fs.map Prod.fst = x.fs.map Prod.fst ∧ Reps K G (fs.map Prod.snd) (x.fs.map Prod.snd)
section
variable (K : PySem.W.Frag) (mg : Str → Option Value) (Γ : Ctx) (W : WX) (σ : St) (τ : List (Option V)) (stk : Env)
def RsQ {α : Type} (P : α → Env → Prop) : Rs α → Prop
  | .ok a e => P a e
  | .exc x e => ∀ c d G' H', R K Γ σ e τ stk G' H' → XRep K mg G' H' x c d → W c d σ H'
  | .fail => False
end
/-- what a derivation may lean on: slots that keep their value, facts of what stays -/
structure Asm where
  np : List Nat
  fact : Ctx → Prop
  st : ∀ (Γ : Ctx) (H G : Hp) (P : List Addr), Sub Γ.G0 G → fact Γ → fact ⟨H, G, P, Γ.pin⟩
abbrev asm (np : List Nat) : Asm := ⟨np, fun _ => True, fun _ _ _ _ _ _ => trivial⟩
def PinOk (Γ : Ctx) (np : Asm) : Prop := (∀ i v, Γ.pin i = some v → i ∈ np.np) ∧ np.fact Γ
theorem PinOk.base {Γ : Ctx} {np : Asm} {H G : Hp} {P : List Addr} (h : PinOk Γ np) (s : Sub Γ.G0 G) : PinOk ⟨H, G, P, Γ.pin⟩ np := ⟨h.1, np.st Γ H G P s h.2⟩
section
variable (K : PySem.W.Frag) (mg : Str → Option Value) (W : WX) (np : Asm)
/-- an expression's reading keeps to m -/
def ESnd (t : TE) (m : ME) : Prop := ∀ (Γ : Ctx) (σ : St) (env : Env) (τ : List (Option V)) (stk : Env) (G H : Hp) (Q : VK), PinOk Γ np → R K Γ σ env τ stk G H →
  RsQ K mg Γ W σ τ stk (fun o e => ∀ v G' H', R K Γ σ e (some v :: τ) (some o :: stk) G' H' → Q v H') (m env) → t σ H Q
def evalK : AK → Env → Rs (Option O)
  | .nm i, e => match e[i]? with
    | some (some _) => .ok none e
    | _ => .fail
  | .ex m, e => match m e with
    | .ok o e => .ok (some o) e
    | .exc x e => .exc x e
    | .fail => .fail
def isNm : AK → St → V → Prop
  | .nm i, σ, v => σ[i]? = some (some v)
  | .ex _, _, _ => True
def KSnd (t : TE) (k : AK) : Prop := ∀ (Γ : Ctx) (σ : St) (env : Env) (τ : List (Option V)) (stk : Env) (G H : Hp) (Q : VK), PinOk Γ np → R K Γ σ env τ stk G H →
  RsQ K mg Γ W σ τ stk (fun c e => ∀ v G' H', R K Γ σ e (some v :: τ) (c :: stk) G' H' → isNm k σ v → Q v H') (evalK k env) → t σ H Q
def evalA : List AK → Env → Rs (List (Option O))
  | [], e => .ok [] e
  | k :: ks, e => match evalK k e with
    | .ok c e1 => match evalA ks e1 with
      | .ok cs e2 => .ok (c :: cs) e2
      | .exc x e2 => .exc x e2
      | .fail => .fail
    | .exc x e1 => .exc x e1
    | .fail => .fail
def areNm : List AK → St → List V → Prop
  | [], _, vs => vs = []
  | k :: ks, σ, vs => ∃ v r, vs = v :: r ∧ isNm k σ v ∧ areNm ks σ r
def ASnd (t : TA) (ks : List AK) : Prop := ∀ (Γ : Ctx) (σ : St) (env : Env) (τ : List (Option V)) (stk : Env) (G H : Hp) (Q : List V → Hp → Prop), PinOk Γ np → R K Γ σ env τ stk G H →
  RsQ K mg Γ W σ τ stk (fun cs e => ∀ vs G' H', cs.length = vs.length → R K Γ σ e (vs.map some ++ τ) (cs ++ stk) G' H' → areNm ks σ vs → Q vs H') (evalA ks env) → t σ H Q
/-- a test's reading keeps to m -/
def TSnd (t : TT) (m : Env → Rs Bool) : Prop := ∀ (Γ : Ctx) (σ : St) (env : Env) (τ : List (Option V)) (stk : Env) (G H : Hp) (Q : Bool → Hp → Prop), PinOk Γ np → R K Γ σ env τ stk G H →
  RsQ K mg Γ W σ τ stk (fun b e => ∀ G' H', R K Γ σ e τ stk G' H' → Q b H') (m env) → t σ H Q
/-- what is wanted behind a statement -/
def SRQ (Γ : Ctx) (D : Ends) : SR → Prop
  | .nx e => ∀ σ' G' H', R K Γ σ' e [] [] G' H' → D.nx σ' H'
  | .rt o e => ∀ σ' v G' H', R K Γ σ' e [some v] [some o] G' H' → D.rt v H'
  | .bk e => ∀ σ' G' H', R K Γ σ' e [] [] G' H' → D.bk σ' H'
  | .ct e => ∀ σ' G' H', R K Γ σ' e [] [] G' H' → D.ct σ' H'
  | .exc x e => ∀ σ' c d G' H', R K Γ σ' e [] [] G' H' → XRep K mg G' H' x c d → W c d σ' H'
  | .fail => False
def SSnd (t : TS) (m : MS) : Prop := ∀ (Γ : Ctx) (σ : St) (env : Env) (G H : Hp) (D : Ends), PinOk Γ np → R K Γ σ env [] [] G H → SRQ K mg W Γ D (m env) → t D σ H
end
section
variable (X : Cx) (W : WX) (np : Asm)
structure DE (e : Expr) (m : ME) : Prop where
  ex : ∃ t, PE X e t ∧ ESnd X.K X.mg W np t m
structure DK (e : Expr) (k : AK) : Prop where
  ex : ∃ t, PE X e t ∧ KSnd X.K X.mg W np t k
structure DA (es : List Expr) (ks : List AK) : Prop where
  ex : ∃ t, PA X es t ∧ ASnd X.K X.mg W np t ks
structure DT (e : Expr) (m : Env → Rs Bool) : Prop where
  ex : ∃ t, PT X e t ∧ TSnd X.K X.mg W np t m
structure DS (st : Stmt) (m : MS) : Prop where
  ex : ∃ t, PS X st t ∧ SSnd X.K X.mg W np t m
structure DSs (st : List Stmt) (m : MS) : Prop where
  ex : ∃ t, PSs X st t ∧ SSnd X.K X.mg W np t m
end
/-! ### operands -/
section
variable {X : Cx} {W : WX} {np : Asm} {K : PySem.W.Frag} {mg : Str → Option Value}
theorem R.dropMid {Γ : Ctx} {σ : St} {e : Env} {τ : List (Option V)} {stk : Env} {G H : Hp} {v : Option V} {o : Option O} : ∀ {vs : List (Option V)} {os : Env}, vs.length = os.length → R K Γ σ e (v :: (vs ++ τ)) (o :: (os ++ stk)) G H → R K Γ σ e (v :: τ) (o :: stk) G H
  | [], [], _, r => r
  | [], _ :: _, h, _ => by cases h
  | _ :: _, [], h, _ => by cases h
  | y :: vs, z :: os, h, r => by
    have q : R K Γ σ e (y :: ([v] ++ (vs ++ τ))) (z :: ([o] ++ (os ++ stk))) G H := R.rot (vs := [v]) (os := [o]) r rfl
    exact R.dropMid (Nat.succ.inj h) q.pop1
theorem RsQ.up {α : Type} {Γ : Ctx} {σ : St} {τ : List (Option V)} {stk : Env} {v : Option V} {o : Option O} {P P' : α → Env → Prop} : ∀ {r : Rs α}, RsQ K mg Γ W σ τ stk P r → (∀ a e, P a e → P' a e) → RsQ K mg Γ W σ (v :: τ) (o :: stk) P' r
  | .ok a e, h, k => k a e h
  | .exc x e, h, _ => fun c d G' H' r q => h c d G' H' r.pop1 q
  | .fail, h, _ => h
theorem dk_nm (i : Nat) {x : Str} {pos : Pos} (hN : X.N[i]? = some x := by rfl) (hv : Vis X.env.scope x := by first | exact Or.inl rfl | exact Or.inr (Or.inl rfl) | exact Or.inr (Or.inr rfl)) (hd : (x == ("__debug__" : Str)) = false := by decide)
    (hcd : (x == ("__classdict__" : Str)) = false := by decide) : DK X W np (.Name x pos) (.nm i) := by
  refine ⟨_, pe_var (i := i) hN hv hd hcd, fun Γ σ env τ stk G H Q hp r h => ?_⟩
  simp only [evalK] at h
  split at h
  · rename_i o he
    obtain ⟨v, f, e, q⟩ := r.slot he
    obtain ⟨f1, f2, c, s, n, m⟩ := r.ex
    exact ⟨v, e, h v G H ⟨r.wd, r.pin, f1, f2, c, .skip s, n, m⟩ e⟩
  · exact False.elim h
theorem dk_ex {e : Expr} {m : ME} (h : DE X W np e m) : DK X W np e (.ex m) := by
  obtain ⟨t, p, s⟩ := h.ex
  refine ⟨t, p, fun Γ σ env τ stk G H Q hp r h => s Γ σ env τ stk G H Q hp r ?_⟩
  unfold evalK at h
  cases e : m env with
  | ok o e' =>
    simp only [e] at h
    exact fun v G' H' r' => h v G' H' r' trivial
  | exc x e' =>
    simp only [e] at h
    exact h
  | fail =>
    simp only [e] at h
    exact h
theorem da_nil : DA X W np [] [] := ⟨_, pa_nil, fun Γ σ env τ stk G H Q hp r h => h [] G H rfl r rfl⟩
theorem asnd_cons {t : TE} {ts : TA} {k : AK} {ks : List AK} (h1 : KSnd K mg W np t k) (h2 : ASnd K mg W np ts ks) : ASnd K mg W np (tCons t ts) (k :: ks) := by
  intro Γ σ env τ stk G H Q hp r h
  refine h1 Γ σ env τ stk G H _ hp r ?_
  unfold evalA at h
  cases e1 : evalK k env with
  | ok c e =>
    simp only [e1] at h
    intro v G1 H1 r1 n1
    refine h2 Γ σ e _ _ G1 H1 _ hp r1 ?_
    cases e2 : evalA ks e with
    | ok cs e' =>
      simp only [e2] at h
      intro vs G2 H2 hl r2 n2
      refine h (v :: vs) G2 H2 (congrArg (· + 1) hl) ?_ ⟨v, vs, rfl, n1, n2⟩
      exact R.rot r2 (by simp [hl])
    | exc x e' =>
      simp only [e2] at h
      exact fun c d G' H' r q => h c d G' H' r.pop1 q
    | fail =>
      simp only [e2] at h
      exact h
  | exc x e =>
    simp only [e1] at h
    exact h
  | fail =>
    simp only [e1] at h
    exact h
theorem asnd_nil : ASnd K mg W np tNil [] := fun Γ σ env τ stk G H Q hp r h => h [] G H rfl r rfl
theorem da_cons {e : Expr} {es : List Expr} {k : AK} {ks : List AK} (h1 : DK X W np e k) (h2 : DA X W np es ks) (hs : starEach (e :: es) X.env = (false, eval e X.env) :: starEach es X.env := by rfl) : DA X W np (e :: es) (k :: ks) := by
  obtain ⟨t, p, s⟩ := h1.ex
  obtain ⟨ts, q, u⟩ := h2.ex
  exact ⟨_, pa_cons p q (by exact hs), asnd_cons s u⟩
/-! ### what the operands are -/
def resK : AK → Option O → Env → Option O
  | .nm i, _, e => (e[i]?).join
  | .ex _, c, _ => c
def resA : List AK → List (Option O) → Env → Option (List O)
  | [], _, _ => some []
  | k :: ks, cs, e => match resK k (cs.headD none) e, resA ks cs.tail e with
    | some o, some os => some (o :: os)
    | _, _ => none
/-- values and what they stand for, one by one -/
inductive OAll (K : PySem.W.Frag) (G H : Hp) : List V → List O → Prop where
  | nil : OAll K G H [] []
  | cons {v : V} {o : O} {vs : List V} {os : List O} : (∃ f, ORep K G H v o f) → OAll K G H vs os → OAll K G H (v :: vs) (o :: os)
theorem oall_of {Γ : Ctx} {σ : St} {e : Env} {τ : List (Option V)} {stk : Env} {G H : Hp} : ∀ {ks : List AK} {vs : List V} {cs : List (Option O)} {os : List O} {pre : List (Option V)} {pres : Env}, pre.length = pres.length → R K Γ σ e (pre ++ (vs.map some ++ τ)) (pres ++ (cs ++ stk)) G H → cs.length = vs.length → areNm ks σ vs → resA ks cs e = some os → OAll K G H vs os
  | [], vs, cs, os, _, _, _, r, hl, hn, hr => by
    cases hn
    cases hr
    exact .nil
  | k :: ks, ws, [], os, _, _, _, r, hl, hn, hr => by
    obtain ⟨v, vs, e, n1, n2⟩ := hn
    subst e
    cases hl
  | k :: ks, ws, c :: cs, os, pre, pres, hpl, r, hl, hn, hr => by
    obtain ⟨v, vs, e, n1, n2⟩ := hn
    subst e
    unfold resA at hr
    split at hr
    · rename_i o os' h1 h2
      cases hr
      refine .cons ?_ (oall_of (pre := pre ++ [some v]) (pres := pres ++ [c]) (by simp [hpl]) (by simpa using r) (Nat.succ.inj hl) n2 h2)
      cases k with
      | nm i =>
        have h1' : (e[i]?).join = some o := h1
        have h1'' : e[i]? = some (some o) := by
          cases q : e[i]? with
          | none => rw [q] at h1'; cases h1'
          | some z => rw [q] at h1'; exact congrArg some h1'
        obtain ⟨v', f, e1, q⟩ := r.slot h1''
        have e2 : σ[i]? = some (some v) := n1
        rw [e1] at e2
        cases e2
        exact ⟨f, q⟩
      | ex m =>
        have h1' : c = some o := h1
        subst h1'
        have r' : R K Γ σ e (some v :: (pre ++ (vs.map some ++ τ))) (some o :: (pres ++ (cs ++ stk))) G H := R.rot (by simpa using r) hpl
        exact r'.top
    · cases hr
/-! ### an operation upon operands -/
/-- op: what is pushed; r: the reading by values -/
def OpS (K : PySem.W.Frag) (r : List V → Hp → VK → Prop) (op : List O → Option O) : Prop := ∀ (Γ : Ctx) (σ : St) (e : Env) (τ : List (Option V)) (stk : Env) (G H : Hp) (vs : List V) (os : List O) (o : O) (Q : VK),
  R K Γ σ e τ stk G H → OAll K G H vs os → op os = some o → (∀ v G' H', R K Γ σ e (some v :: τ) (some o :: stk) G' H' → Q v H') → r vs H Q
def mOp (op : List O → Option O) (ks : List AK) : ME := fun env => match evalA ks env with
  | .ok cs e => match resA ks cs e with
    | some os => match op os with
      | some o => .ok o e
      | none => .fail
    | none => .fail
  | .exc x e => .exc x e
  | .fail => .fail
theorem esnd_op {t : TA} {ks : List AK} {r : List V → Hp → VK → Prop} {op : List O → Option O} (h1 : ASnd K mg W np t ks) (h2 : OpS K r op) : ESnd K mg W np (fun σ H Q => t σ H fun vs H1 => r vs H1 Q) (mOp op ks) := by
  intro Γ σ env τ stk G H Q hp r h
  refine h1 Γ σ env τ stk G H _ hp r ?_
  unfold mOp at h
  cases e1 : evalA ks env with
  | ok cs e =>
    simp only [e1] at h
    intro vs G1 H1 hl r1 n1
    cases e2 : resA ks cs e with
    | none =>
      simp only [e2] at h
      exact h.elim
    | some os =>
      simp only [e2] at h
      cases e3 : op os with
      | none =>
        simp only [e3] at h
        exact h.elim
      | some o =>
        simp only [e3] at h
        refine h2 Γ σ e _ _ G1 H1 vs os o Q r1 (oall_of (pre := []) (pres := []) rfl r1 hl n1 e2) e3 fun v G' H' r' => h v G' H' (R.dropMid (by simp [hl]) r')
  | exc x e =>
    simp only [e1] at h
    exact h
  | fail =>
    simp only [e1] at h
    exact h
/-- a value of no address -/
def atom : D → Option V
  | .non => some .non
  | .bl b => some (.bl b)
  | .int i => some (.int i)
  | .str s => some (.str s)
  | _ => none
theorem rep_atom {G : Hp} {x : D} {v : V} (h : atom x = some v) : Rep K G v x := by
  cases x <;> cases h
  · exact .non
  · exact .bl _
  · exact .int _
  · exact .str _
/-- an operation whose outcome is of no address -/
theorem ops_atom {r : List V → Hp → VK → Prop} {op : List O → Option D} (h : ∀ (G H : Hp) (vs : List V) (os : List O) (x : D) (Q : VK), Sub G H → OAll K G H vs os → op os = some x → ∃ v, atom x = some v ∧ (Q v H → r vs H Q)) : OpS K r (fun os => (op os).map O.d) := by
  intro Γ σ e τ stk G H vs os o Q rr ha ho k
  cases q : op os with
  | none => simp [q] at ho
  | some x =>
    simp [q] at ho
    subst ho
    obtain ⟨v, hv, hr⟩ := h G H vs os x Q rr.wd.sub ha q
    exact hr (k v G H (rr.pushD (rep_atom hv)))
end
end Dn
end
section
set_option Elab.async false
set_option linter.all false
set_option maxRecDepth 100000
set_option maxHeartbeats 4000000
/-! Dn2: expressions. -/
namespace Dn
open PySem PySem.Spec L2
open PyProof.Rows hiding St
/-! ### names, constants -/
def mC (x : D) : ME := fun e => .ok (.d x) e
/-- a name that is read: what it holds stays from now on -/
def mN (i : Nat) : ME := fun e => match e[i]? with
  | some (some (.d x)) => .ok (.d x) e
  | some (some (.l os)) => .ok (.d (.lst (frzs os))) (e.set i (some (.d (.lst (frzs os)))))
  | _ => .fail
/-- a name that is read for the last time -/
def mMv (i : Nat) : ME := fun e => match e[i]? with
  | some (some (.d x)) => .ok (.d x) e
  | some (some (.l os)) => .ok (.l os) (e.set i none)
  | some (some (.t xs)) => .ok (.t xs) (e.set i none)
  | _ => .fail
section
variable {X : Cx} {W : WX} {np : Asm} {K : PySem.W.Frag} {mg : Str → Option Value}
theorem esnd_c {v : V} {x : D} (h : atom x = some v) : ESnd K mg W np (tC v) (mC x) := fun Γ σ env τ stk G H Q hp r k => k v G H (r.pushD (rep_atom h))
theorem de_int {i : Int} {j pos} : DE X W np (.Constant (.int i) j pos) (mC (.int i)) := ⟨_, pe_int, esnd_c rfl⟩
theorem de_bl {b : Bool} {j pos} : DE X W np (.Constant (.bool b) j pos) (mC (.bl b)) := ⟨_, pe_bl, esnd_c rfl⟩
theorem de_non {j pos} : DE X W np (.Constant .none j pos) (mC .non) := ⟨_, pe_non, esnd_c rfl⟩
theorem de_str {x : Str} {j pos} : DE X W np (.Constant (.str x) j pos) (mC (.str x)) := ⟨_, pe_str, esnd_c rfl⟩
theorem R.dup {Γ : Ctx} {σ : St} {env : Env} {τ : List (Option V)} {stk : Env} {G H : Hp} {i : Nat} {v : V} {x : D} (r : R K Γ σ env (some v :: τ) (some (.d x) :: stk) G H) (h : σ[i]? = some (some v)) : R K Γ σ (env.set i (some (.d x))) (some v :: τ) (some (.d x) :: stk) G H :=
  (r.back h).pushD r.topD
theorem esnd_n (i : Nat) : ESnd K mg W np (tVar i) (mN i) := by
  intro Γ σ env τ stk G H Q hp r h
  unfold mN at h
  split at h
  · rename_i x he
    obtain ⟨v, e, q⟩ := r.slotD he
    exact ⟨v, e, h v G H (r.pushD q)⟩
  · rename_i os he
    obtain ⟨v, e, r1⟩ := r.move he
    obtain ⟨G', r2⟩ := r1.frz
    have r3 := r2.dup e
    rw [List.set_set] at r3
    exact ⟨v, e, h v G' H r3⟩
  · exact False.elim h
theorem esnd_mv (i : Nat) : ESnd K mg W np (tVar i) (mMv i) := by
  intro Γ σ env τ stk G H Q hp r h
  unfold mMv at h
  split at h
  · rename_i x he
    obtain ⟨v, e, q⟩ := r.slotD he
    exact ⟨v, e, h v G H (r.pushD q)⟩
  · rename_i os he
    obtain ⟨v, e, r1⟩ := r.move he
    exact ⟨v, e, h v G H r1⟩
  · rename_i xs he
    obtain ⟨v, e, r1⟩ := r.move he
    exact ⟨v, e, h v G H r1⟩
  · exact False.elim h
theorem de_n (i : Nat) {x : Str} {pos : Pos} (hN : X.N[i]? = some x := by rfl) (hv : Vis X.env.scope x := by first | exact Or.inl rfl | exact Or.inr (Or.inl rfl) | exact Or.inr (Or.inr rfl)) (hd : (x == ("__debug__" : Str)) = false := by decide)
    (hcd : (x == ("__classdict__" : Str)) = false := by decide) : DE X W np (.Name x pos) (mN i) := ⟨_, pe_var (i := i) hN hv hd hcd, esnd_n i⟩
theorem de_mv (i : Nat) {x : Str} {pos : Pos} (hN : X.N[i]? = some x := by rfl) (hv : Vis X.env.scope x := by first | exact Or.inl rfl | exact Or.inr (Or.inl rfl) | exact Or.inr (Or.inr rfl)) (hd : (x == ("__debug__" : Str)) = false := by decide)
    (hcd : (x == ("__classdict__" : Str)) = false := by decide) : DE X W np (.Name x pos) (mMv i) := ⟨_, pe_var (i := i) hN hv hd hcd, esnd_mv i⟩
/-! ### operators -/
def r2 (r : R2) : List V → Hp → VK → Prop
  | [x, y] => r x y
  | _ => fun _ _ => False
def r1 (r : V → Hp → VK → Prop) : List V → Hp → VK → Prop
  | [x] => r x
  | _ => fun _ _ => False
theorem asnd2 {ta tb : TE} {k1 k2 : AK} (h1 : KSnd K mg W np ta k1) (h2 : KSnd K mg W np tb k2) : ASnd K mg W np (tCons ta (tCons tb tNil)) [k1, k2] := asnd_cons h1 (asnd_cons h2 asnd_nil)
theorem esnd_op2 {ta tb : TE} {k1 k2 : AK} {r : R2} {f : List O → Option O} (h1 : KSnd K mg W np ta k1) (h2 : KSnd K mg W np tb k2) (hs : OpS K (r2 r) f) : ESnd K mg W np (tOp r ta tb) (mOp f [k1, k2]) :=
  esnd_op (asnd2 h1 h2) hs
theorem de_bin {op : Operator} {r : R2} {f : List O → Option O} {a b : Expr} {pos : Pos} {k1 k2 : AK} (ho : OpR X (binaryOp op) r) (hs : OpS X.K (r2 r) f) (ha : DK X W np a k1) (hb : DK X W np b k2) : DE X W np (.BinOp a op b pos) (mOp f [k1, k2]) := by
  obtain ⟨ta, p, s⟩ := ha.ex
  obtain ⟨tb, q, u⟩ := hb.ex
  exact ⟨_, pe_op ho p q, esnd_op2 s u hs⟩
theorem de_cmp {op : CmpOp} {r : R2} {f : List O → Option O} {a b : Expr} {pos : Pos} {k1 k2 : AK} (ho : OpR X (compareOp op) r) (hs : OpS X.K (r2 r) f) (ha : DK X W np a k1) (hb : DK X W np b k2) (hm : behindInMarks op b = false := by first | exact nobehind _ (by decide) (by decide) | rfl) : DE X W np (.Compare a [op] [b] pos) (mOp f [k1, k2]) := by
  obtain ⟨ta, p, s⟩ := ha.ex
  obtain ⟨tb, q, u⟩ := hb.ex
  exact ⟨_, pe_cmpR ho p q hm, esnd_op2 s u hs⟩
theorem de_ix {r : R2} {f : List O → Option O} {a b : Expr} {pos : Pos} {k1 k2 : AK} (ho : IxR X r) (hs : OpS X.K (r2 r) f) (ha : DK X W np a k1) (hb : DK X W np b k2) (hp : PlainIx b := by exact fun _ _ => rfl) : DE X W np (.Subscript a b pos) (mOp f [k1, k2]) := by
  obtain ⟨ta, p, s⟩ := ha.ex
  obtain ⟨tb, q, u⟩ := hb.ex
  exact ⟨_, pe_ix ho p q hp, esnd_op2 s u hs⟩
theorem de_un {op : UnaryOp} {r : V → Hp → VK → Prop} {f : List O → Option O} {a : Expr} {pos : Pos} {k1 : AK} (ho : UnR X (unaryOp op) r) (hs : OpS X.K (r1 r) f) (ha : DK X W np a k1) : DE X W np (.UnaryOp op a pos) (mOp f [k1]) := by
  obtain ⟨ta, p, s⟩ := ha.ex
  exact ⟨_, pe_un ho p, esnd_op (r := r1 r) (asnd_cons s asnd_nil) hs⟩
theorem de_callB {id : String} {r : List V → Hp → VK → Prop} {f : List O → Option O} {x : Str} {e : Expr} {es : List Expr} {p pos : Pos} {ks : List AK} (hc : CallR X (.builtin id) r) (hs : OpS X.K r f) (hm : X.mg x = none) (ha : DA X W np (e :: es) ks) (hv : bootBuiltins x = some (.builtin id) := by decide +kernel) (hg : Gl X x := by rfl)
    (hn : x ≠ "__name__" := by decide) (hdb : (x == ("__debug__" : Str)) = false := by decide) (he : starEach (e :: es) X.env = (false, eval e X.env) :: starEach es X.env := by rfl) (hpl : (backTo pos (starEach es X.env)).any (·.1) = false := by rfl) : DE X W np (.Call (.Name x p) (e :: es) [] pos) (mOp f ks) := by
  obtain ⟨t, q, s⟩ := ha.ex
  exact ⟨_, pe_callB hc hg hm hv q hn hdb (by exact he) (by exact hpl), esnd_op s hs⟩
theorem de_callTy {T : String} {r : List V → Hp → VK → Prop} {f : List O → Option O} {x : Str} {e : Expr} {es : List Expr} {p pos : Pos} {ks : List AK} (hc : CallR X (.type T) r) (hs : OpS X.K r f) (hm : X.mg x = none) (ha : DA X W np (e :: es) ks) (hv : bootBuiltins x = some (.type T) := by decide +kernel) (hg : Gl X x := by rfl)
    (hn : x ≠ "__name__" := by decide) (hdb : (x == ("__debug__" : Str)) = false := by decide) (he : starEach (e :: es) X.env = (false, eval e X.env) :: starEach es X.env := by rfl) (hpl : (backTo pos (starEach es X.env)).any (·.1) = false := by rfl) : DE X W np (.Call (.Name x p) (e :: es) [] pos) (mOp f ks) := by
  obtain ⟨t, q, s⟩ := ha.ex
  exact ⟨_, pe_callTy hc hg hm hv q hn hdb (by exact he) (by exact hpl), esnd_op s hs⟩
/-! ### operations by values: ints -/
def asI : O → Option Int
  | .d (.int i) => some i
  | _ => none
theorem orep_int {G H : Hp} {v : V} {o : O} {i : Int} (h : ∃ f, ORep K G H v o f) (e : asI o = some i) : v = .int i := by
  obtain ⟨f, h⟩ := h
  cases h with
  | d h =>
    cases h <;> first | cases e; rfl | cases e
  | l => cases e
  | t => cases e
def fI2 (C : Int → Int → Bool) (g : Int → Int → D) : List O → Option O
  | [a, b] => match asI a, asI b with
    | some i, some j => if C i j then some (.d (g i j)) else none
    | _, _ => none
  | _ => none
theorem ops_I2 {C : Int → Int → Bool} {r : R2} {g : Int → Int → V} {gd : Int → Int → D} (hr : ∀ i j H Q, C i j = true → Q (g i j) H → r (.int i) (.int j) H Q) (hg : ∀ i j, C i j = true → atom (gd i j) = some (g i j)) : OpS K (r2 r) (fI2 C gd) := by
  intro Γ σ e τ stk G H vs os o Q rr ha ho k
  match ha with
  | .nil => cases ho
  | .cons _ .nil => cases ho
  | .cons _ (.cons _ (.cons _ _)) => cases ho
  | @OAll.cons _ _ _ v a _ _ h1 (@OAll.cons _ _ _ w b _ _ h2 .nil) =>
    simp only [fI2] at ho
    split at ho
    · rename_i i j ei ej
      split at ho
      · rename_i hc
        cases ho
        have e1 := orep_int h1 ei
        have e2 := orep_int h2 ej
        subst e1 e2
        exact hr i j H Q hc (k _ G H (rr.pushD (rep_atom (hg i j hc))))
      · cases ho
    · cases ho
def tt2 (_ _ : Int) : Bool := true
abbrev oAdd := fI2 tt2 fun i j => .int (i + j)
abbrev oSub := fI2 tt2 fun i j => .int (i - j)
def CMulA (i j : Int) : Prop := CMulW i j ∨ CMul i j
theorem op_mulA {X : Cx} : OpR X (binaryOp .Mult) (rI CMulA fun i j => .int (i * j)) := opI fun _ _ _ _ _ _ _ hc q => mul_int q (hc.elim CMulW.ok CMul.ok)
def cMul (i j : Int) : Bool := decide (i.natAbs.log2 + j.natAbs.log2 < 1000000) || (decide (-(2 ^ 64) < i ∧ i < 2 ^ 64) || decide (-(2 ^ 64) < j ∧ j < 2 ^ 64))
theorem cMul_of {i j : Int} (h : cMul i j = true) : CMulA i j := by
  unfold cMul at h
  rcases Bool.or_eq_true_iff.mp h with h | h
  · exact .inl (of_decide_eq_true (p := i.natAbs.log2 + j.natAbs.log2 < 1000000) h)
  · rcases Bool.or_eq_true_iff.mp h with h | h
    · exact .inr (.inl (of_decide_eq_true h))
    · exact .inr (.inr (of_decide_eq_true h))
abbrev oMul := fI2 cMul fun i j => .int (i * j)
def cDiv (_ j : Int) : Bool := decide (0 < j ∧ j.natAbs.log2 < 9000)
abbrev oDiv := fI2 cDiv fun i j => .int (i / j)
def cMod (_ j : Int) : Bool := decide (0 < j)
abbrev oMod := fI2 cMod fun i j => .int (i % j)
def cShr (_ j : Int) : Bool := decide (0 ≤ j)
abbrev oShr := fI2 cShr fun i j => .int (i / 2 ^ j.toNat)
def cShl (i j : Int) : Bool := decide (0 ≤ j ∧ j ≤ 1000000 ∧ i.natAbs < 2 ^ 64)
abbrev oShl := fI2 cShl fun i j => .int (i * 2 ^ j.toNat)
abbrev oPow := fI2 cShl fun i j => .int (i ^ j.toNat)
abbrev oAnd := fI2 tt2 fun i j => .int (Builtin.bitAnd i j)
abbrev oLt := fI2 tt2 fun i j => .bl (decide (i < j))
abbrev oLe := fI2 tt2 fun i j => .bl (decide (i ≤ j))
abbrev oGt := fI2 tt2 fun i j => .bl (decide (j < i))
abbrev oGe := fI2 tt2 fun i j => .bl (decide (j ≤ i))
theorem s_add : OpS K (r2 (rI0 fun i j => .int (i + j))) oAdd := ops_I2 (fun i j H Q _ q => ⟨i, j, rfl, rfl, q⟩) fun _ _ _ => rfl
theorem s_sub : OpS K (r2 (rI0 fun i j => .int (i - j))) oSub := ops_I2 (fun i j H Q _ q => ⟨i, j, rfl, rfl, q⟩) fun _ _ _ => rfl
theorem s_mul : OpS K (r2 (rI CMulA fun i j => .int (i * j))) oMul := ops_I2 (fun i j H Q c q => ⟨i, j, rfl, rfl, cMul_of c, q⟩) fun _ _ _ => rfl
theorem s_div : OpS K (r2 (rI CDivW fun i j => .int (i / j))) oDiv := ops_I2 (fun i j H Q c q => ⟨i, j, rfl, rfl, of_decide_eq_true (p := 0 < j ∧ j.natAbs.log2 < 9000) c, q⟩) fun _ _ _ => rfl
theorem s_mod : OpS K (r2 (rI (fun _ j => j ≠ 0) fun i j => .int (i.fmod j))) oMod := ops_I2 (g := fun i j => .int (i % j)) (fun i j H Q c q => by
  have c' : 0 < j := of_decide_eq_true c
  refine ⟨i, j, rfl, rfl, by omega, ?_⟩
  show Q (V.int (i.fmod j)) H
  rw [Int.fmod_eq_emod_of_nonneg i (by omega : 0 ≤ j)]
  exact q) fun _ _ _ => rfl
theorem s_shr : OpS K (r2 (rI (fun _ j => 0 ≤ j) fun i j => .int (i / 2 ^ j.toNat))) oShr := ops_I2 (fun i j H Q c q => ⟨i, j, rfl, rfl, of_decide_eq_true c, q⟩) fun _ _ _ => rfl
theorem s_shl : OpS K (r2 (rI CPow fun i j => .int (i * 2 ^ j.toNat))) oShl := ops_I2 (fun i j H Q c q => ⟨i, j, rfl, rfl, of_decide_eq_true (p := 0 ≤ j ∧ j ≤ 1000000 ∧ i.natAbs < 2 ^ 64) c, q⟩) fun _ _ _ => rfl
theorem s_pow : OpS K (r2 (rI CPow fun i j => .int (i ^ j.toNat))) oPow := ops_I2 (fun i j H Q c q => ⟨i, j, rfl, rfl, of_decide_eq_true (p := 0 ≤ j ∧ j ≤ 1000000 ∧ i.natAbs < 2 ^ 64) c, q⟩) fun _ _ _ => rfl
theorem s_and : OpS K (r2 (rI0 fun i j => .int (Builtin.bitAnd i j))) oAnd := ops_I2 (fun i j H Q _ q => ⟨i, j, rfl, rfl, q⟩) fun _ _ _ => rfl
theorem s_lt : OpS K (r2 (rI0 fun i j => .bl (decide (i < j)))) oLt := ops_I2 (fun i j H Q _ q => ⟨i, j, rfl, rfl, q⟩) fun _ _ _ => rfl
theorem s_le : OpS K (r2 (rI0 fun i j => .bl (decide (i ≤ j)))) oLe := ops_I2 (fun i j H Q _ q => ⟨i, j, rfl, rfl, q⟩) fun _ _ _ => rfl
theorem s_gt : OpS K (r2 (rI0 fun i j => .bl (decide (j < i)))) oGt := ops_I2 (fun i j H Q _ q => ⟨i, j, rfl, rfl, q⟩) fun _ _ _ => rfl
theorem s_ge : OpS K (r2 (rI0 fun i j => .bl (decide (j ≤ i)))) oGe := ops_I2 (fun i j H Q _ q => ⟨i, j, rfl, rfl, q⟩) fun _ _ _ => rfl
def oNeg : List O → Option O
  | [a] => (asI a).map fun i => .d (.int (-i))
  | _ => none
theorem s_neg : OpS K (r1 (rU fun i => .int (-i))) oNeg := by
  intro Γ σ e τ stk G H vs os o Q rr ha ho k
  match ha with
  | .nil => cases ho
  | .cons _ (.cons _ _) => cases ho
  | @OAll.cons _ _ _ v a _ _ h1 .nil =>
    cases ei : asI a with
    | none => simp [oNeg, ei] at ho
    | some i =>
      simp [oNeg, ei] at ho
      subst ho
      have e1 := orep_int h1 ei
      subst e1
      exact ⟨i, rfl, k _ G H (rr.pushD (rep_atom rfl))⟩
/-! ### None, ==, isinstance -/
def isN : O → Bool
  | .d .non => true
  | _ => false
theorem orep_non {G H : Hp} {v : V} {o : O} (h : ∃ f, ORep K G H v o f) : decide (v = .non) = isN o := by
  obtain ⟨f, h⟩ := h
  cases h with
  | d h => cases h <;> rfl
  | l => rfl
  | t => rfl
def oIsN (neg : Bool) : List O → Option O
  | [a, .d .non] => some (.d (.bl (if neg then !isN a else isN a)))
  | _ => none
theorem s_isN : OpS K (r2 (fun x y H Q => y = .non ∧ Q (.bl (decide (x = .non))) H)) (oIsN false) := by
  intro Γ σ e τ stk G H vs os o Q rr ha ho k
  match ha with
  | .nil => cases ho
  | .cons _ .nil => cases ho
  | .cons _ (.cons _ (.cons _ _)) => simp [oIsN] at ho
  | @OAll.cons _ _ _ v a _ _ h1 (@OAll.cons _ _ _ w b _ _ h2 .nil) =>
    have hb : b = .d .non := by
      unfold oIsN at ho
      split at ho
      · rename_i h
        cases h
        rfl
      · cases ho
    subst hb
    simp [oIsN] at ho
    subst ho
    obtain ⟨f, h2⟩ := h2
    cases h2 with
    | d h2 =>
      cases h2
      refine ⟨rfl, ?_⟩
      rw [orep_non h1]
      exact k _ G H (rr.pushD (.bl _))
theorem s_notN : OpS K (r2 (fun x y H Q => y = .non ∧ Q (.bl (!decide (x = .non))) H)) (oIsN true) := by
  intro Γ σ e τ stk G H vs os o Q rr ha ho k
  match ha with
  | .nil => cases ho
  | .cons _ .nil => cases ho
  | .cons _ (.cons _ (.cons _ _)) => simp [oIsN] at ho
  | @OAll.cons _ _ _ v a _ _ h1 (@OAll.cons _ _ _ w b _ _ h2 .nil) =>
    have hb : b = .d .non := by
      unfold oIsN at ho
      split at ho
      · rename_i h
        cases h
        rfl
      · cases ho
    subst hb
    simp [oIsN] at ho
    subst ho
    obtain ⟨f, h2⟩ := h2
    cases h2 with
    | d h2 =>
      cases h2
      refine ⟨rfl, ?_⟩
      rw [orep_non h1]
      exact k _ G H (rr.pushD (.bl _))
mutual
def pd : D → PyData
  | .non => .none
  | .bl b => .bool b
  | .int i => .int i
  | .str s => .str s
  | .tup xs => .tuple (pds xs)
  | .lst xs => .list (pds xs)
  | .scr xs => .list (pds xs)
def pds : List D → List PyData
  | [] => []
  | x :: r => pd x :: pds r
end
mutual
theorem Rep.dp {G H : Hp} (e : Sub G H) : ∀ {v : V} {x : D}, Rep K G v x → Dp K H v (pd x)
  | _, _, .non => .non
  | _, _, .bl b => .bl b
  | _, _, .int b => .int b
  | _, _, .str b => .str b
  | _, _, .tup h r => .tup (e.sqT h) (Reps.dp e r)
  | _, _, .lst h r => .lst (.inl (.inl (e _ _ h))) (Reps.dp e r)
  | _, _, .scr h r => .lst (e.sqL h) (Reps.dp e r)
theorem Reps.dp {G H : Hp} (e : Sub G H) : ∀ {v : List V} {x : List D}, Reps K G v x → DpAll K H v (pds x)
  | _, _, .nil => .nil
  | _, _, .cons h r => .cons (Rep.dp e h) (Reps.dp e r)
end
mutual
theorem ORep.dp {G H : Hp} (e : Sub G H) : ∀ {v : V} {o : O} {f : List Addr}, ORep K G H v o f → Dp K H v (pd (frz o))
  | _, _, _, .d r => r.dp e
  | _, _, _, .t h g r => .tup (.inl (.inr ⟨_, e _ _ h⟩)) (r.dp e)
  | _, _, _, .l h g r => .lst (.inl (.inl h)) (OReps.dp e r)
theorem OReps.dp {G H : Hp} (e : Sub G H) : ∀ {v : List V} {o : List O} {f : List Addr}, OReps K G H v o f → DpAll K H v (pds (frzs o))
  | _, _, _, .nil => .nil
  | _, _, _, .cons h r => .cons (ORep.dp e h) (OReps.dp e r)
end
/-- == of data -/
def deq (x y : D) : Bool := PyData.eqv (pd x) (pd y)
def oEq (neg : Bool) : List O → Option O
  | [a, b] => if SeqAt.shaped (pd (frz a)) && SeqAt.shaped (pd (frz b)) then some (.d (.bl (if neg then !deq (frz a) (frz b) else deq (frz a) (frz b)))) else none
  | _ => none
theorem s_eq : OpS K (r2 (rEqD K)) (oEq false) := by
  intro Γ σ e τ stk G H vs os o Q rr ha ho k
  match ha with
  | .nil => simp [oEq] at ho
  | .cons _ .nil => simp [oEq] at ho
  | .cons _ (.cons _ (.cons _ _)) => simp [oEq] at ho
  | @OAll.cons _ _ _ v a _ _ h1 (@OAll.cons _ _ _ w b _ _ h2 .nil) =>
    by_cases hc : (SeqAt.shaped (pd (frz a)) && SeqAt.shaped (pd (frz b))) = true
    · simp only [oEq] at ho
      rw [if_pos hc] at ho
      cases ho
      obtain ⟨f, h1⟩ := h1
      obtain ⟨g, h2⟩ := h2
      obtain ⟨c1, c2⟩ := Bool.and_eq_true_iff.mp hc
      exact ⟨_, _, h1.dp rr.wd.sub, h2.dp rr.wd.sub, c1, c2, k _ G H (rr.pushD (.bl _))⟩
    · simp only [oEq] at ho
      rw [if_neg hc] at ho
      cases ho
theorem s_ne : OpS K (r2 (rNeD K)) (oEq true) := by
  intro Γ σ e τ stk G H vs os o Q rr ha ho k
  match ha with
  | .nil => simp [oEq] at ho
  | .cons _ .nil => simp [oEq] at ho
  | .cons _ (.cons _ (.cons _ _)) => simp [oEq] at ho
  | @OAll.cons _ _ _ v a _ _ h1 (@OAll.cons _ _ _ w b _ _ h2 .nil) =>
    by_cases hc : (SeqAt.shaped (pd (frz a)) && SeqAt.shaped (pd (frz b))) = true
    · simp only [oEq] at ho
      rw [if_pos hc] at ho
      cases ho
      obtain ⟨f, h1⟩ := h1
      obtain ⟨g, h2⟩ := h2
      obtain ⟨c1, c2⟩ := Bool.and_eq_true_iff.mp hc
      exact ⟨_, _, h1.dp rr.wd.sub, h2.dp rr.wd.sub, c1, c2, k _ G H (rr.pushD (.bl _))⟩
    · simp only [oEq] at ho
      rw [if_neg hc] at ho
      cases ho
/-- the name of a value's class -/
def tyN : O → String
  | .d .non => "NoneType"
  | .d (.bl _) => "bool"
  | .d (.int _) => "int"
  | .d (.str _) => "str"
  | .d (.tup _) => "tuple"
  | .d (.lst _) => "list"
  | .d (.scr _) => "list"
  | .l _ => "list"
  | .t _ => "tuple"
theorem sqT_ty {H : Hp} {a : Addr} {vs : List V} (h : SqT K H a vs) : TyX K H (.ref a) (.type "tuple") := by
  rcases h with (h | ⟨o, h⟩) | ⟨o, its, n, h, c, _⟩
  · exact .base (.tup h)
  · exact .fTuple h
  · exact .kTuple h c
theorem sqL_ty {H : Hp} {a : Addr} {vs : List V} (h : SqL K H a vs) : TyX K H (.ref a) (.type "list") := by
  rcases h with (h | ⟨o, h⟩) | ⟨o, its, n, h, c, _⟩
  · exact .base (.lst h)
  · exact .base (.frz h)
  · exact .kList h c
theorem orep_ty {G H : Hp} (e : Sub G H) {v : V} {o : O} (h : ∃ f, ORep K G H v o f) : TyX K H v (.type (tyN o)) := by
  obtain ⟨f, h⟩ := h
  cases h with
  | d h =>
    cases h with
    | non => exact .base .non
    | bl b => exact .base (.bl b)
    | int b => exact .base (.int b)
    | str b => exact .base (.str b)
    | tup h r => exact sqT_ty (e.sqT h)
    | lst h r => exact sqL_ty (.inl (.inl (e _ _ h)))
    | scr h r => exact sqL_ty (e.sqL h)
  | l h g r => exact sqL_ty (.inl (.inl h))
  | t h g r => exact sqT_ty (.inl (.inr ⟨_, e _ _ h⟩))
/-- isinstance(x, T), T a built-in class by its name -/
def oIsi (T : String) : List O → Option O
  | [a] => (kitB (tyN a) T).map fun b => .d (.bl b)
  | _ => none
def rIsi1 (K : PySem.W.Frag) (T : String) : List V → Hp → VK → Prop
  | [x] => fun H Q => rIsi K [x, .ty T] H Q
  | _ => fun _ _ => False
theorem s_isi {T : String} : OpS K (rIsi1 K T) (oIsi T) := by
  intro Γ σ e τ stk G H vs os o Q rr ha ho k
  match ha with
  | .nil => cases ho
  | .cons _ (.cons _ _) => cases ho
  | @OAll.cons _ _ _ v a _ _ h1 .nil =>
    cases eb : kitB (tyN a) T with
    | none => simp [oIsi, eb] at ho
    | some b =>
      simp [oIsi, eb] at ho
      subst ho
      exact ⟨v, .ty T, _, _, b, rfl, .ty T, orep_ty rr.wd.sub h1, kit_ty eb, k _ G H (rr.pushD (.bl b))⟩
theorem de_isi {x : Str} {a : Expr} {T : String} {p q pos : Pos} {k : AK} (hi : X.mg "isinstance" = none) (hx : X.mg x = none) (ha : DK X W np a k) (hv : bootBuiltins x = some (.type T) := by decide +kernel) (hg : Gl X "isinstance" := by rfl) (hgx : Gl X x := by rfl) (hn : x ≠ "__name__" := by decide) (hdb : (x == ("__debug__" : Str)) = false := by decide)
    (he : starEach [a, .Name x q] X.env = (false, eval a X.env) :: starEach [.Name x q] X.env := by rfl) (he2 : starEach [.Name x q] X.env = (false, eval (.Name x q) X.env) :: starEach [] X.env := by rfl) (hpl : (backTo pos (starEach [.Name x q] X.env)).any (·.1) = false := by rfl) :
    DE X W np (.Call (.Name "isinstance" p) [a, .Name x q] [] pos) (mOp (oIsi T) [k]) := by
  obtain ⟨t, pe, s⟩ := ha.ex
  refine ⟨_, pe_callB (r := rIsi X.K) call_isi hg hi (by decide +kernel) (pa_cons pe (pa_cons (pe_bltn (v := .ty T) hgx hx hv rfl hn hdb) pa_nil (by exact he2)) (by exact he)) (by decide) (by decide) (by exact he) (by exact hpl), ?_⟩
  exact esnd_op (r := rIsi1 X.K T) (asnd_cons s asnd_nil) s_isi
end
end Dn
end
section
set_option Elab.async false
set_option linter.all false
set_option maxRecDepth 100000
set_option maxHeartbeats 4000000
/-! Dn3: and, or, not, tests, displays, items, slices, built-ins upon lists and tuples. -/
namespace Dn
open PySem PySem.Spec L2
open PyProof.Rows hiding St
section
variable {X : Cx} {W : WX} {np : Asm} {K : PySem.W.Frag} {mg : Str → Option Value}
/-! ### and, or, not -/
/-- on: a bool goes on by k -/
def onB (r : Rs O) (k : Bool → Env → Rs O) : Rs O := match r with
  | .ok (.d (.bl c)) e => k c e
  | .ok _ _ => .fail
  | .exc x e => .exc x e
  | .fail => .fail
def mAnd (a b : ME) : ME := fun e => onB (a e) fun c e1 => if c then b e1 else .ok (.d (.bl false)) e1
def mOr (a b : ME) : ME := fun e => onB (a e) fun c e1 => if c then .ok (.d (.bl true)) e1 else b e1
def mNot (a : ME) : ME := fun e => onB (a e) fun c e1 => .ok (.d (.bl (!c))) e1
theorem R.topB {Γ : Ctx} {σ : St} {env : Env} {τ : List (Option V)} {stk : Env} {G H : Hp} {v : V} {c : Bool} (r : R K Γ σ env (some v :: τ) (some (.d (.bl c)) :: stk) G H) : v = .bl c := by
  have h := r.topD
  cases h
  rfl
theorem RsQ.onB {Γ : Ctx} {σ : St} {τ : List (Option V)} {stk : Env} {P : O → Env → Prop} {r : Rs O} {k : Bool → Env → Rs O} (h : RsQ K mg Γ W σ τ stk P (Dn.onB r k)) : RsQ K mg Γ W σ τ stk (fun o e => ∃ c, o = .d (.bl c) ∧ RsQ K mg Γ W σ τ stk P (k c e)) r := by
  cases r with
  | ok o e =>
    unfold Dn.onB at h
    split at h
    · rename_i c e1 he
      cases he
      exact ⟨c, rfl, h⟩
    · exact False.elim h
    · rename_i he
      cases he
    · rename_i he
      cases he
  | exc x e => exact h
  | fail => exact h
theorem RsQ.imp {α : Type} {Γ : Ctx} {σ : St} {τ : List (Option V)} {stk : Env} {P P' : α → Env → Prop} {r : Rs α} (h : RsQ K mg Γ W σ τ stk P r) (k : ∀ a e, P a e → P' a e) : RsQ K mg Γ W σ τ stk P' r := by
  cases r with
  | ok o e => exact k o e h
  | exc x e => exact h
  | fail => exact h
theorem de_not {a : Expr} {pos : Pos} {m : ME} (h : DE X W np a m) : DE X W np (.UnaryOp .Not a pos) (mNot m) := by
  obtain ⟨t, p, s⟩ := h.ex
  refine ⟨_, pe_not p, fun Γ σ env τ stk G H Q hp r h => s Γ σ env τ stk G H _ hp r (h.onB.imp fun o e ⟨c, eo, q⟩ v G' H' r' => ?_)⟩
  subst eo
  obtain rfl := r'.topB
  exact ⟨c, rfl, q _ G' H' (r'.pop.pushD (.bl _))⟩
theorem de_and {a b : Expr} {rest : List Expr} {pos : Pos} {m n : ME} (h : DE X W np a m) (g : DE X W np (.BoolOp .And (b :: rest) pos) n) : DE X W np (.BoolOp .And (a :: b :: rest) pos) (mAnd m n) := by
  obtain ⟨t, p, s⟩ := h.ex
  obtain ⟨t', p', s'⟩ := g.ex
  refine ⟨_, pe_and p p', fun Γ σ env τ stk G H Q hp r h => s Γ σ env τ stk G H _ hp r (h.onB.imp fun o e ⟨c, eo, q⟩ v G' H' r' => ?_)⟩
  subst eo
  obtain rfl := r'.topB
  refine ⟨c, rfl, ?_⟩
  cases c with
  | true =>
    rw [if_pos rfl] at q ⊢
    exact s' Γ σ e τ stk G' H' Q hp r'.pop q
  | false =>
    rw [if_neg Bool.false_ne_true] at q ⊢
    exact q _ G' H' (r'.pop.pushD (.bl _))
theorem de_or {a b : Expr} {rest : List Expr} {pos : Pos} {m n : ME} (h : DE X W np a m) (g : DE X W np (.BoolOp .Or (b :: rest) pos) n) : DE X W np (.BoolOp .Or (a :: b :: rest) pos) (mOr m n) := by
  obtain ⟨t, p, s⟩ := h.ex
  obtain ⟨t', p', s'⟩ := g.ex
  refine ⟨_, pe_or p p', fun Γ σ env τ stk G H Q hp r h => s Γ σ env τ stk G H _ hp r (h.onB.imp fun o e ⟨c, eo, q⟩ v G' H' r' => ?_)⟩
  subst eo
  obtain rfl := r'.topB
  refine ⟨c, rfl, ?_⟩
  cases c with
  | false =>
    rw [if_neg Bool.false_ne_true] at q ⊢
    exact s' Γ σ e τ stk G' H' Q hp r'.pop q
  | true =>
    rw [if_pos rfl] at q ⊢
    exact q _ G' H' (r'.pop.pushD (.bl _))
theorem de_one {a : Expr} {op} {pos : Pos} {m : ME} (h : DE X W np a m) : DE X W np (.BoolOp op [a] pos) m := by
  obtain ⟨t, p, s⟩ := h.ex
  exact ⟨_, pe_one p, s⟩
/-! ### tests -/
def mB (m : ME) : Env → Rs Bool := fun e => match m e with
  | .ok (.d (.bl c)) e => .ok c e
  | .ok _ _ => .fail
  | .exc x e => .exc x e
  | .fail => .fail
theorem RsQ.mB {Γ : Ctx} {σ : St} {τ : List (Option V)} {stk : Env} {P : Bool → Env → Prop} {m : ME} {env : Env} (h : RsQ K mg Γ W σ τ stk P (Dn.mB m env)) : RsQ K mg Γ W σ τ stk (fun o e => ∃ c, o = .d (.bl c) ∧ P c e) (m env) := by
  unfold Dn.mB at h
  cases q : m env with
  | ok o e =>
    rw [q] at h
    split at h
    · rename_i c e1 he
      cases he
      exact ⟨c, rfl, h⟩
    · exact False.elim h
    · rename_i he
      cases he
    · rename_i he
      cases he
  | exc x e =>
    rw [q] at h
    exact h
  | fail =>
    rw [q] at h
    exact h
theorem dt_val {a : Expr} {m : ME} (h : DE X W np a m) (he : ∀ whole, isTrue a X.env whole = (do let v ← whole; standAt a.pos; holding [v] (truthy v)) := by intro _; rfl) : DT X W np a (mB m) := by
  obtain ⟨t, p, s⟩ := h.ex
  refine ⟨_, pt_val p he, fun Γ σ env τ stk G H Q hp r h => s Γ σ env τ stk G H _ hp r (h.mB.imp fun o e ⟨c, eo, q⟩ v G' H' r' => ?_)⟩
  subst eo
  obtain rfl := r'.topB
  exact ⟨c, rfl, q G' H' r'.pop⟩
/-- truth -/
def truO : O → Option Bool
  | .d .non => some false
  | .d (.bl b) => some b
  | .d (.int i) => some (i != 0)
  | .d (.str _) => none
  | .d (.tup xs) => some (!xs.isEmpty)
  | .d (.lst xs) => some (!xs.isEmpty)
  | .d (.scr xs) => some (!xs.isEmpty)
  | .l os => some (!os.isEmpty)
  | .t _ => none
theorem empty_of {α β : Type} {xs : List α} {ys : List β} (h : xs.length = ys.length) : xs.isEmpty = ys.isEmpty := by
  cases xs <;> cases ys <;> first | rfl | cases h
theorem orep_tru {G H : Hp} (e : Sub G H) {v : V} {o : O} {b : Bool} (h : ∃ f, ORep K G H v o f) (hb : truO o = some b) : TruV K v H b := by
  obtain ⟨f, h⟩ := h
  cases h with
  | d h =>
    cases h with
    | non => exact (Option.some.inj hb).symm
    | bl b => exact (Option.some.inj hb).symm
    | int b => exact (Option.some.inj hb).symm
    | str b => cases hb
    | tup h r => exact .inr (.inl ⟨_, e.sqT h, by rw [empty_of r.length]; exact (Option.some.inj hb).symm⟩)
    | lst h r => exact .inl ⟨_, .inl (.inl (e _ _ h)), by rw [empty_of r.length]; exact (Option.some.inj hb).symm⟩
    | scr h r => exact .inl ⟨_, e.sqL h, by rw [empty_of r.length]; exact (Option.some.inj hb).symm⟩
  | l h g r => exact .inl ⟨_, .inl (.inl h), by rw [empty_of r.length]; exact (Option.some.inj hb).symm⟩
  | t => cases hb
def one1 (P : V → Hp → Prop) : List V → Hp → Prop
  | [x] => P x
  | _ => fun _ => False
def mTru (k : AK) : Env → Rs Bool := fun env => match evalA [k] env with
  | .ok cs e => match resA [k] cs e with
    | some [o] => match truO o with
      | some b => .ok b e
      | none => .fail
    | _ => .fail
  | .exc x e => .exc x e
  | .fail => .fail
theorem dt_tru {a : Expr} {k : AK} (h : DK X W np a k) (he : ∀ whole, isTrue a X.env whole = (do let v ← whole; standAt a.pos; holding [v] (truthy v)) := by intro _; rfl) : DT X W np a (mTru k) := by
  obtain ⟨t, p, s⟩ := h.ex
  refine ⟨_, pt_truth p he, fun Γ σ env τ stk G H Q hp r h => ?_⟩
  refine (show tCons t tNil σ H (one1 fun x H' => ∃ b, TruV X.K x H' b ∧ Q b H') from asnd_cons s asnd_nil Γ σ env τ stk G H _ hp r ?_)
  unfold mTru at h
  cases e1 : evalA [k] env with
  | ok cs e =>
    simp only [e1] at h
    intro vs G1 H1 hl r1 n1
    cases e2 : resA [k] cs e with
    | none =>
      simp only [e2] at h
      exact False.elim h
    | some os =>
      simp only [e2] at h
      split at h
      · rename_i o ho
        cases ho
        cases e3 : truO o with
        | none =>
          simp only [e3] at h
          exact False.elim h
        | some b =>
          simp only [e3] at h
          have ha := oall_of (pre := []) (pres := []) rfl r1 hl n1 e2
          match ha with
          | @OAll.cons _ _ _ v _ _ _ h1 .nil => exact ⟨b, orep_tru r1.wd.sub h1 e3, h G1 H1 (R.popN (by simp [hl]) r1)⟩
      · exact False.elim h
  | exc x e =>
    simp only [e1] at h
    exact h
  | fail =>
    simp only [e1] at h
    exact h
def mTNot (m : Env → Rs Bool) : Env → Rs Bool := fun e => match m e with
  | .ok c e => .ok (!c) e
  | .exc x e => .exc x e
  | .fail => .fail
theorem dt_not {a : Expr} {pos : Pos} {m : Env → Rs Bool} (h : DT X W np a m) : DT X W np (.UnaryOp .Not a pos) (mTNot m) := by
  obtain ⟨t, p, s⟩ := h.ex
  refine ⟨_, pt_not p, fun Γ σ env τ stk G H Q hp r h => s Γ σ env τ stk G H _ hp r ?_⟩
  unfold mTNot at h
  cases q : m env with
  | ok o e =>
    rw [q] at h
    exact h
  | exc x e =>
    rw [q] at h
    exact h
  | fail =>
    rw [q] at h
    exact h
end
end Dn
end
section
set_option Elab.async false
set_option linter.all false
set_option maxRecDepth 100000
set_option maxHeartbeats 4000000
/-! Dn4: displays, items, slices, built-ins upon lists and tuples. -/
namespace Dn
open PySem PySem.Spec L2
open PyProof.Rows hiding St
def allS : List (Option O) → Option (List O)
  | [] => some []
  | some o :: r => (allS r).map (o :: ·)
  | none :: _ => none
theorem allS_of : ∀ {cs : List (Option O)} {os : List O}, allS cs = some os → cs = os.map some
  | [], _, h => by
    cases h
    rfl
  | none :: _, _, h => by cases h
  | some o :: r, os, h => by
    unfold allS at h
    cases e : allS r with
    | none => rw [e] at h; cases h
    | some z =>
      rw [e] at h
      cases h
      rw [allS_of e]
      rfl
def line : Nat := 16777216
theorem line_eq {n : Nat} (h : n ≤ line) : n ≤ sizeLine := by
  rw [sizeLine_eq]
  exact h
/-- the operands' values all come to one -/
def mAll (f : List O → Option O) (ks : List AK) : ME := fun env => match evalA ks env with
  | .ok cs e => match allS cs with
    | some os => match f os with
      | some o => .ok o e
      | none => .fail
    | none => .fail
  | .exc x e => .exc x e
  | .fail => .fail
def oTup (os : List O) : Option O := if os.length ≤ line then some (.d (.tup (frzs os))) else none
def oLst (os : List O) : Option O := if os.length ≤ line then some (.l os) else none
section
variable {X : Cx} {W : WX} {np : Asm} {K : PySem.W.Frag} {mg : Str → Option Value}
section
variable {Γ : Ctx} {σ : St} {env : Env} {τ : List (Option V)} {stk : Env} {G H : Hp}
theorem frzs_len : ∀ os : List O, (frzs os).length = os.length
  | [] => rfl
  | _ :: r => by
    unfold frzs
    rw [List.length_cons, List.length_cons, frzs_len r]
theorem frzs_d : ∀ xs : List D, frzs (xs.map O.d) = xs
  | [] => rfl
  | x :: r => by
    show frz (.d x) :: frzs (r.map O.d) = x :: r
    rw [frzs_d r]
    rfl
/-- what lies on top is frozen and taken off -/
theorem R.frzN {vs : List V} {os : List O} (r : R K Γ σ env (vs.map some ++ τ) (os.map some ++ stk) G H) (hl : vs.length = os.length) : ∃ G', R K Γ σ env τ stk G' H ∧ Reps K G' vs (frzs os) := by
  obtain ⟨f1, f2, c, s, n, m⟩ := r.ex
  obtain ⟨fa, fb, e, q', s2⟩ := s.split (by simpa using hl)
  have q := q'.reps
  subst e
  have gn : ∀ a ∈ fa, G a = none := fun a h => (q.own a h).2
  have ma : Mine Γ fa := fun a h => m a (List.mem_append_right _ (List.mem_append_left _ h))
  have nd := List.nodup_append.mp n
  have nd2 := List.nodup_append.mp nd.2.1
  have k1 : Keep G H (join G H fa) H f1 := ⟨Sub.join gn, fun a h => ⟨rfl, fun z => by
    rw [join_out (fun y => nd.2.2 a h a (List.mem_append_left _ y) rfl)]
    exact z⟩⟩
  have k2 : Keep G H (join G H fa) H fb := ⟨Sub.join gn, fun a h => ⟨rfl, fun z => by
    rw [join_out (fun y => nd2.2.2 a y a h rfl)]
    exact z⟩⟩
  have sl : (f1 ++ fb).Sublist (f1 ++ (fa ++ fb)) := List.Sublist.append (List.Sublist.refl _) (List.sublist_append_right _ _)
  exact ⟨join G H fa, ⟨r.wd.grow ma gn, r.pin, f1, fb, c.keep k1, s2.keep k2, n.sublist sl, fun a h => m a (sl.subset h)⟩, q.frz (Sub.join gn) fun a h => join_in h⟩
theorem R.pushDs : ∀ {vs : List V} {xs : List D}, Reps K G vs xs → R K Γ σ env τ stk G H → R K Γ σ env (vs.map some ++ τ) ((xs.map O.d).map some ++ stk) G H
  | _, _, .nil, r => r
  | _, _, .cons h q, r => (R.pushDs q r).pushD h
/-- a new list of what stays -/
theorem R.mkL {p : Addr} {vs : List V} {xs : List D} (r : R K Γ σ env τ stk G H) (h : Reps K G vs xs) (hp : H p = none) : R K Γ σ env (some (.ref p) :: τ) (some (.l (xs.map O.d)) :: stk) G (upd H p (.lst vs)) :=
  (r.pushDs h).newL (by rw [List.length_map]; exact h.length) hp
/-- a new tuple of what stays -/
theorem R.mkT {p : Addr} {vs : List V} {xs : List D} (r : R K Γ σ env τ stk G H) (h : Reps K G vs xs) (hp : H p = none) : R K Γ σ env (some (.ref p) :: τ) (some (.d (.tup xs)) :: stk) (upd G p (.tup vs)) (upd H p (.tup vs)) := by
  obtain ⟨r1, sg⟩ := r.newG (o := .tup vs) hp
  exact r1.pushD (.tup (.inl (.inl upd_same)) (h.mono sg))
end
theorem de_tup {es : List Expr} {ks : List AK} {x1 : Nat} {pos : Pos} (h : DA X W np es ks) : DE X W np (.Tuple es x1 pos) (mAll oTup ks) := by
  obtain ⟨t, p, s⟩ := h.ex
  refine ⟨_, pe_tup p, fun Γ σ env τ stk G H Q hp r h => s Γ σ env τ stk G H _ hp r ?_⟩
  unfold mAll at h
  cases e1 : evalA ks env with
  | ok cs e =>
    simp only [e1] at h
    intro vs G1 H1 hl r1 n1
    cases e2 : allS cs with
    | none =>
      simp only [e2] at h
      exact False.elim h
    | some os =>
      simp only [e2] at h
      have ec := allS_of e2
      subst ec
      have hl' : vs.length = os.length := by
        rw [← hl, List.length_map]
      by_cases hs : os.length ≤ line
      · simp only [oTup, if_pos hs] at h
        obtain ⟨G2, r2, q2⟩ := r1.frzN hl'
        exact ⟨line_eq (by rw [hl']; exact hs), fun p hp => h _ _ _ (r2.mkT q2 hp)⟩
      · simp only [oTup, if_neg hs] at h
        exact False.elim h
  | exc x e =>
    simp only [e1] at h
    exact h
  | fail =>
    simp only [e1] at h
    exact h
theorem de_lst {es : List Expr} {ks : List AK} {pos : Pos} (h : DA X W np es ks) : DE X W np (.List es pos) (mAll oLst ks) := by
  obtain ⟨t, p, s⟩ := h.ex
  refine ⟨_, pe_lst p, fun Γ σ env τ stk G H Q hp r h => s Γ σ env τ stk G H _ hp r ?_⟩
  unfold mAll at h
  cases e1 : evalA ks env with
  | ok cs e =>
    simp only [e1] at h
    intro vs G1 H1 hl r1 n1
    cases e2 : allS cs with
    | none =>
      simp only [e2] at h
      exact False.elim h
    | some os =>
      simp only [e2] at h
      have ec := allS_of e2
      subst ec
      have hl' : vs.length = os.length := by
        rw [← hl, List.length_map]
      by_cases hs : os.length ≤ line
      · simp only [oLst, if_pos hs] at h
        exact ⟨line_eq (by rw [hl']; exact hs), fun p hp => h _ _ _ (r1.newL hl' hp)⟩
      · simp only [oLst, if_neg hs] at h
        exact False.elim h
  | exc x e =>
    simp only [e1] at h
    exact h
  | fail =>
    simp only [e1] at h
    exact h
/-! ### what a list or a tuple holds -/
def allD : List O → Option (List D)
  | [] => some []
  | .d x :: r => (allD r).map (x :: ·)
  | .l _ :: _ => none
  | .t _ :: _ => none
theorem allD_of {G H : Hp} : ∀ {os : List O} {vs : List V} {f : List Addr} {xs : List D}, OReps K G H vs os f → allD os = some xs → Reps K G vs xs
  | _, _, _, _, .nil, h => by
    cases h
    exact .nil
  | _, _, _, _, .cons (o := .l _) q r, h => by cases h
  | _, _, _, _, .cons (o := .t _) q r, h => by cases h
  | _, _, _, _, .cons (o := .d x) (os := os) q r, h => by
    unfold allD at h
    cases e : allD os with
    | none => rw [e] at h; cases h
    | some z =>
      rw [e] at h
      cases h
      cases q with
      | d q => exact .cons q (allD_of r e)
theorem allD_map : ∀ xs : List D, allD (xs.map O.d) = some xs
  | [] => rfl
  | x :: r => by
    show (allD (r.map O.d)).map (x :: ·) = some (x :: r)
    rw [allD_map r]
    rfl
/-- a list's items -/
def lstF : O → Option (List D)
  | .d (.lst xs) => some xs
  | .d (.scr xs) => some xs
  | .l os => allD os
  | _ => none
def tupF : O → Option (List D)
  | .d (.tup xs) => some xs
  | .t xs => some xs
  | _ => none
theorem lstF_of {G H : Hp} (e : Sub G H) {v : V} {o : O} {xs : List D} (h : ∃ f, ORep K G H v o f) (hx : lstF o = some xs) : ∃ a vs, v = .ref a ∧ SqL K H a vs ∧ Reps K G vs xs := by
  obtain ⟨f, h⟩ := h
  cases h with
  | d h =>
    cases h with
    | lst h r =>
      cases hx
      exact ⟨_, _, rfl, .inl (.inl (e _ _ h)), r⟩
    | scr h r =>
      cases hx
      exact ⟨_, _, rfl, e.sqL h, r⟩
    | tup => cases hx
    | _ => cases hx
  | l h g r => exact ⟨_, _, rfl, .inl (.inl h), allD_of r hx⟩
  | t => cases hx
theorem tupF_of {G H : Hp} (e : Sub G H) {v : V} {o : O} {xs : List D} (h : ∃ f, ORep K G H v o f) (hx : tupF o = some xs) : ∃ a vs, v = .ref a ∧ SqT K H a vs ∧ Reps K G vs xs ∧ SqT K G a vs := by
  obtain ⟨f, h⟩ := h
  cases h with
  | d h =>
    cases h with
    | tup h r =>
      cases hx
      exact ⟨_, _, rfl, e.sqT h, r, h⟩
    | lst => cases hx
    | _ => cases hx
  | l => cases hx
  | t h g r =>
    cases hx
    exact ⟨_, _, rfl, .inl (.inr ⟨_, e _ _ h⟩), r, .inl (.inr ⟨_, h⟩)⟩
theorem Reps.get {G : Hp} : ∀ {vs : List V} {xs : List D} {i : Nat} {x : D}, Reps K G vs xs → xs[i]? = some x → ∃ v, vs[i]? = some v ∧ Rep K G v x
  | _, _, _, _, .nil, h => by simp at h
  | _, _, 0, _, .cons q r, h => by
    cases h
    exact ⟨_, rfl, q⟩
  | _, _, i + 1, _, .cons q r, h => by
    obtain ⟨v, h1, h2⟩ := r.get (i := i) (by simpa using h)
    exact ⟨v, by simpa using h1, h2⟩
theorem Reps.getV {G : Hp} : ∀ {vs : List V} {xs : List D} {i : Nat} {v : V}, Reps K G vs xs → vs[i]? = some v → ∃ x, xs[i]? = some x ∧ Rep K G v x
  | _, _, _, _, .nil, h => by simp at h
  | _, _, 0, _, .cons q r, h => by
    cases h
    exact ⟨_, rfl, q⟩
  | _, _, i + 1, _, .cons q r, h => by
    obtain ⟨v, h1, h2⟩ := r.getV (i := i) (by simpa using h)
    exact ⟨v, by simpa using h1, h2⟩
theorem atI_len {α β : Type} {xs : List α} {ys : List β} {i : Int} (h : xs.length = ys.length) {x : α} (e : atI xs i = some x) : ∃ j : Nat, xs[j]? = some x ∧ ∀ y, ys[j]? = some y → atI ys i = some y := by
  unfold atI at e
  cases q : ixN xs.length i with
  | none => rw [q] at e; cases e
  | some j =>
    rw [q] at e
    refine ⟨j, e, fun y hy => ?_⟩
    unfold atI
    rw [← h, q]
    exact hy
theorem Reps.at {G : Hp} {vs : List V} {xs : List D} {i : Int} {x : D} (r : Reps K G vs xs) (h : atI xs i = some x) : ∃ v, atI vs i = some v ∧ Rep K G v x := by
  obtain ⟨j, h1, h2⟩ := atI_len (ys := vs) r.length.symm h
  obtain ⟨v, h3, h4⟩ := r.get h1
  exact ⟨v, h2 v h3, h4⟩
/-- the item at a place; a list of which some items are lists of its own is only looked at where it holds data -/
def atO (o : O) (i : Int) : Option D := match o with
  | .d (.tup xs) => atI xs i
  | .d (.lst xs) => atI xs i
  | .d (.scr xs) => atI xs i
  | .l os => match atI os i with
    | some (.d x) => some x
    | _ => none
  | _ => none
theorem OReps.get {G H : Hp} : ∀ {vs : List V} {os : List O} {f : List Addr} {i : Nat} {o : O}, OReps K G H vs os f → os[i]? = some o → ∃ v g, vs[i]? = some v ∧ ORep K G H v o g
  | _, _, _, _, _, .nil, h => by simp at h
  | _, _, _, 0, _, .cons q r, h => by
    cases h
    exact ⟨_, _, rfl, q⟩
  | _, _, _, i + 1, _, .cons q r, h => by
    obtain ⟨v, g, h1, h2⟩ := r.get (i := i) (by simpa using h)
    exact ⟨v, g, by simpa using h1, h2⟩
def oIx : List O → Option O
  | [a, b] => match asI b with
    | some i => (atO a i).map O.d
    | none => none
  | _ => none
def rIxLT (K : PySem.W.Frag) : R2 := fun x y H Q => rIxL K x y H Q ∨ rIxT K x y H Q
theorem ix_lt : IxR X (rIxLT X.K) := ix_list.or ix_tup
theorem orep_at {G H : Hp} (e : Sub G H) {v : V} {o : O} {i : Int} {x : D} (h : ∃ f, ORep K G H v o f) (ha : atO o i = some x) : ∃ p vs w, v = .ref p ∧ (SqL K H p vs ∨ SqT K H p vs) ∧ atI vs i = some w ∧ Rep K G w x := by
  obtain ⟨f, h⟩ := h
  cases h with
  | d h =>
    cases h with
    | tup h r =>
      obtain ⟨w, h1, h2⟩ := r.at ha
      exact ⟨_, _, w, rfl, .inr (e.sqT h), h1, h2⟩
    | lst h r =>
      obtain ⟨w, h1, h2⟩ := r.at ha
      exact ⟨_, _, w, rfl, .inl (.inl (.inl (e _ _ h))), h1, h2⟩
    | scr h r =>
      obtain ⟨w, h1, h2⟩ := r.at ha
      exact ⟨_, _, w, rfl, .inl (e.sqL h), h1, h2⟩
    | _ => cases ha
  | @l a vs os fp h g r =>
    simp only [atO] at ha
    cases q : atI os i with
    | none => rw [q] at ha; cases ha
    | some z =>
      rw [q] at ha
      cases z with
      | l => cases ha
      | t => cases ha
      | d z =>
        cases ha
        obtain ⟨j, h1, h2⟩ := atI_len (ys := vs) r.length.symm q
        obtain ⟨w, _, h3, h4⟩ := r.get h1
        cases h4 with
        | d h4 => exact ⟨_, _, w, rfl, .inl (.inl (.inl h)), h2 w h3, h4⟩
  | t => cases ha
theorem s_ix : OpS K (r2 (rIxLT K)) oIx := by
  intro Γ σ e τ stk G H vs os o Q rr ha ho k
  match ha with
  | .nil => cases ho
  | .cons _ .nil => cases ho
  | .cons _ (.cons _ (.cons _ _)) => cases ho
  | @OAll.cons _ _ _ v a _ _ h1 (@OAll.cons _ _ _ w b _ _ h2 .nil) =>
    cases ei : asI b with
    | none => simp [oIx, ei] at ho
    | some i =>
      simp only [oIx, ei] at ho
      obtain rfl := orep_int h2 ei
      cases ea : atO a i with
      | none => rw [ea] at ho; cases ho
      | some x =>
        rw [ea] at ho
        cases ho
        obtain ⟨p, vs, y, rfl, sq, hy, ry⟩ := orep_at rr.wd.sub h1 ea
        rcases sq with sq | sq
        · exact .inl ⟨p, vs, i, y, rfl, rfl, sq, hy, k y G H (rr.pushD ry)⟩
        · exact .inr ⟨p, vs, i, y, rfl, rfl, sq, hy, k y G H (rr.pushD ry)⟩
/-! ### len, tuple, list, min, max, sum, all, any -/
def lenO : O → Option Nat
  | .d (.tup xs) => some xs.length
  | .d (.lst xs) => some xs.length
  | .d (.scr xs) => some xs.length
  | .l os => some os.length
  | _ => none
def op1 (f : O → Option O) : List O → Option O
  | [a] => f a
  | _ => none
theorem ops1 {r : List V → Hp → VK → Prop} {f : O → Option O} (h : ∀ (Γ : Ctx) (σ : St) (e : Env) (τ : List (Option V)) (stk : Env) (G H : Hp) (v : V) (a o : O) (Q : VK), R K Γ σ e τ stk G H → (∃ g, ORep K G H v a g) → f a = some o → (∀ v G' H', R K Γ σ e (some v :: τ) (some o :: stk) G' H' → Q v H') → r [v] H Q) : OpS K r (op1 f) := by
  intro Γ σ e τ stk G H vs os o Q rr ha ho k
  match ha with
  | .nil => cases ho
  | .cons _ (.cons _ _) => cases ho
  | @OAll.cons _ _ _ v a _ _ h1 .nil => exact h Γ σ e τ stk G H v a o Q rr h1 ho k
abbrev oLen := op1 fun a => (lenO a).map fun n => .d (.int n)
theorem s_len : OpS K (fun xs H Q => ∃ p ys, xs = [.ref p] ∧ (SqL K H p ys ∨ SqT K H p ys) ∧ Q (.int ys.length) H) oLen := ops1 fun Γ σ e τ stk G H v a o Q rr h ho k => by
  obtain ⟨f, h⟩ := h
  cases h with
  | d h =>
    cases h with
    | tup h r =>
      cases ho
      refine ⟨_, _, rfl, .inr (rr.wd.sub.sqT h), k _ G H (rr.pushD ?_)⟩
      rw [r.length]
      exact .int _
    | lst h r =>
      cases ho
      refine ⟨_, _, rfl, .inl (.inl (.inl (rr.wd.sub _ _ h))), k _ G H (rr.pushD ?_)⟩
      rw [r.length]
      exact .int _
    | scr h r =>
      cases ho
      refine ⟨_, _, rfl, .inl (rr.wd.sub.sqL h), k _ G H (rr.pushD ?_)⟩
      rw [r.length]
      exact .int _
    | _ => cases ho
  | l h g r =>
    cases ho
    refine ⟨_, _, rfl, .inl (.inl (.inl h)), k _ G H (rr.pushD ?_)⟩
    rw [r.length]
    exact .int _
  | t => cases ho
def toTup (a : O) : Option O := match tupF a with
  | some xs => some (.d (.tup xs))
  | none => (lstF a).map fun xs => .d (.tup xs)
theorem s_tuple : OpS K (fun xs H Q => ∃ p ys, xs = [.ref p] ∧ ((SqL K H p ys ∧ ∀ l, H l = none → Q (.ref l) (upd H l (.tup ys))) ∨ (SqT K H p ys ∧ Q (.ref p) H))) (op1 toTup) := ops1 fun Γ σ e τ stk G H v a o Q rr h ho k => by
  unfold toTup at ho
  cases e1 : tupF a with
  | some xs =>
    rw [e1] at ho
    cases ho
    obtain ⟨p, vs, rfl, sq, rp, sg⟩ := tupF_of rr.wd.sub h e1
    exact ⟨p, vs, rfl, .inr ⟨sq, k _ G H (rr.pushD (.tup sg rp))⟩⟩
  | none =>
    rw [e1] at ho
    cases e2 : lstF a with
    | none => rw [e2] at ho; cases ho
    | some xs =>
      rw [e2] at ho
      cases ho
      obtain ⟨p, vs, rfl, sq, rp⟩ := lstF_of rr.wd.sub h e2
      exact ⟨p, vs, rfl, .inl ⟨sq, fun l hl => k _ _ _ (rr.mkT rp hl)⟩⟩
def toLst (a : O) : Option O := match tupF a with
  | some xs => some (.l (xs.map O.d))
  | none => (lstF a).map fun xs => .l (xs.map O.d)
theorem s_list : OpS K (fun xs H Q => ∃ p ys, xs = [.ref p] ∧ (SqL K H p ys ∨ SqT K H p ys) ∧ ∀ l, H l = none → Q (.ref l) (upd H l (.lst ys))) (op1 toLst) := ops1 fun Γ σ e τ stk G H v a o Q rr h ho k => by
  unfold toLst at ho
  cases e1 : tupF a with
  | some xs =>
    rw [e1] at ho
    cases ho
    obtain ⟨p, vs, rfl, sq, rp, sg⟩ := tupF_of rr.wd.sub h e1
    exact ⟨p, vs, rfl, .inr sq, fun l hl => k _ _ _ (rr.mkL rp hl)⟩
  | none =>
    rw [e1] at ho
    cases e2 : lstF a with
    | none => rw [e2] at ho; cases ho
    | some xs =>
      rw [e2] at ho
      cases ho
      obtain ⟨p, vs, rfl, sq, rp⟩ := lstF_of rr.wd.sub h e2
      exact ⟨p, vs, rfl, .inl sq, fun l hl => k _ _ _ (rr.mkL rp hl)⟩
def dInts : List D → Option (List Int)
  | [] => some []
  | .int i :: r => (dInts r).map (i :: ·)
  | _ :: _ => none
theorem dInts_of {G : Hp} : ∀ {xs : List D} {vs : List V} {ns : List Int}, Reps K G vs xs → dInts xs = some ns → vs = ns.map V.int
  | _, _, _, .nil, h => by
    cases h
    rfl
  | x :: xs, _, _, .cons q r, h => by
    cases q with
    | int i =>
      unfold dInts at h
      cases e : dInts xs with
      | none => rw [e] at h; cases h
      | some z =>
        rw [e] at h
        cases h
        rw [dInts_of r e]
        rfl
    | _ => cases h
theorem dInts_map : ∀ ns : List Int, dInts (ns.map D.int) = some ns
  | [] => rfl
  | i :: r => by
    show (dInts (r.map D.int)).map (i :: ·) = some (i :: r)
    rw [dInts_map r]
    rfl
def dBools : List D → Option (List Bool)
  | [] => some []
  | .bl i :: r => (dBools r).map (i :: ·)
  | _ :: _ => none
theorem dBools_of {G : Hp} : ∀ {xs : List D} {vs : List V} {ns : List Bool}, Reps K G vs xs → dBools xs = some ns → vs = ns.map V.bl
  | _, _, _, .nil, h => by
    cases h
    rfl
  | x :: xs, _, _, .cons q r, h => by
    cases q with
    | bl i =>
      unfold dBools at h
      cases e : dBools xs with
      | none => rw [e] at h; cases h
      | some z =>
        rw [e] at h
        cases h
        rw [dBools_of r e]
        rfl
    | _ => cases h
theorem dBools_map : ∀ ns : List Bool, dBools (ns.map D.bl) = some ns
  | [] => rfl
  | i :: r => by
    show (dBools (r.map D.bl)).map (i :: ·) = some (i :: r)
    rw [dBools_map r]
    rfl
def minI : Int → List Int → Int
  | m, [] => m
  | m, x :: r => minI (if x < m then x else m) r
def maxI : Int → List Int → Int
  | m, [] => m
  | m, x :: r => maxI (if m < x then x else m) r
theorem minI_spec : ∀ (r : List Int) (m : Int), (minI m r = m ∨ minI m r ∈ r) ∧ minI m r ≤ m ∧ ∀ y ∈ r, minI m r ≤ y
  | [], m => ⟨.inl rfl, Int.le_refl _, fun y h => by cases h⟩
  | x :: r, m => by
    obtain ⟨h1, h2, h3⟩ := minI_spec r (if x < m then x else m)
    unfold minI
    split at h1
    · rename_i hc
      simp only [if_pos hc] at h2 h3 ⊢
      refine ⟨.inr ?_, by omega, fun y hy => ?_⟩
      · rcases h1 with h1 | h1
        · rw [h1]; exact List.mem_cons_self
        · exact List.mem_cons_of_mem _ h1
      · rcases List.mem_cons.mp hy with rfl | hy
        · exact h2
        · exact h3 y hy
    · rename_i hc
      simp only [if_neg hc] at h2 h3 ⊢
      refine ⟨?_, h2, fun y hy => ?_⟩
      · rcases h1 with h1 | h1
        · exact .inl h1
        · exact .inr (List.mem_cons_of_mem _ h1)
      · rcases List.mem_cons.mp hy with rfl | hy
        · omega
        · exact h3 y hy
theorem maxI_spec : ∀ (r : List Int) (m : Int), (maxI m r = m ∨ maxI m r ∈ r) ∧ m ≤ maxI m r ∧ ∀ y ∈ r, y ≤ maxI m r
  | [], m => ⟨.inl rfl, Int.le_refl _, fun y h => by cases h⟩
  | x :: r, m => by
    obtain ⟨h1, h2, h3⟩ := maxI_spec r (if m < x then x else m)
    unfold maxI
    split at h1
    · rename_i hc
      simp only [if_pos hc] at h2 h3 ⊢
      refine ⟨.inr ?_, by omega, fun y hy => ?_⟩
      · rcases h1 with h1 | h1
        · rw [h1]; exact List.mem_cons_self
        · exact List.mem_cons_of_mem _ h1
      · rcases List.mem_cons.mp hy with rfl | hy
        · exact h2
        · exact h3 y hy
    · rename_i hc
      simp only [if_neg hc] at h2 h3 ⊢
      refine ⟨?_, h2, fun y hy => ?_⟩
      · rcases h1 with h1 | h1
        · exact .inl h1
        · exact .inr (List.mem_cons_of_mem _ h1)
      · rcases List.mem_cons.mp hy with rfl | hy
        · omega
        · exact h3 y hy
/-- a list of dInts, into one value -/
def oInts (f : List Int → Option D) : List O → Option O := op1 fun a => ((lstF a).bind dInts).bind fun ns => (f ns).map O.d
theorem s_ints {r : List V → Hp → VK → Prop} {f : List Int → Option D} (h : ∀ (H : Hp) (a : Addr) (ns : List Int) (x : D) (Q : VK), SqL K H a (ns.map V.int) → f ns = some x → (∀ v, atom x = some v → Q v H) → r [.ref a] H Q) (ht : ∀ ns x, f ns = some x → ∃ v, atom x = some v) : OpS K r (oInts f) := ops1 fun Γ σ e τ stk G H v a o Q rr h' ho k => by
  cases e1 : lstF a with
  | none => simp [e1] at ho
  | some xs =>
    cases e2 : dInts xs with
    | none => simp [e1, e2] at ho
    | some ns =>
      cases e3 : f ns with
      | none => simp [e1, e2, e3] at ho
      | some x =>
        simp [e1, e2, e3] at ho
        subst ho
        obtain ⟨p, vs, rfl, sq, rp⟩ := lstF_of rr.wd.sub h' e1
        have ev := dInts_of rp e2
        subst ev
        exact h H p ns x Q sq e3 fun v hv => k v G H (rr.pushD (rep_atom hv))
def fMin : List Int → Option D
  | [] => none
  | m :: r => some (.int (minI m r))
def fMax : List Int → Option D
  | [] => none
  | m :: r => some (.int (maxI m r))
def fSum (ns : List Int) : Option D := some (.int ns.sum)
abbrev oMin := oInts fMin
abbrev oMax := oInts fMax
abbrev oSum := oInts fSum
theorem s_min : OpS K (rMin K) oMin := s_ints (fun H a ns x Q sq e k => by
  cases ns with
  | nil => cases e
  | cons m r =>
    cases e
    refine ⟨a, m :: r, rfl, sq, Nat.succ_pos _, fun z hz hl => ?_⟩
    obtain ⟨h1, h2, h3⟩ := minI_spec r m
    have e1 : minI m r ≤ z := by
      rcases List.mem_cons.mp hz with rfl | hz
      · exact h2
      · exact h3 z hz
    have e2 : z ≤ minI m r := by
      rcases h1 with h1 | h1
      · rw [h1]; exact hl m List.mem_cons_self
      · exact hl _ (List.mem_cons_of_mem _ h1)
    have e3 : z = minI m r := by omega
    rw [e3]
    exact k _ rfl) fun ns x e => by
  cases ns with
  | nil => cases e
  | cons m r =>
    cases e
    exact ⟨_, rfl⟩
theorem s_max : OpS K (rMax K) oMax := s_ints (fun H a ns x Q sq e k => by
  cases ns with
  | nil => cases e
  | cons m r =>
    cases e
    refine ⟨a, m :: r, rfl, sq, Nat.succ_pos _, fun z hz hl => ?_⟩
    obtain ⟨h1, h2, h3⟩ := maxI_spec r m
    have e1 : z ≤ maxI m r := by
      rcases List.mem_cons.mp hz with rfl | hz
      · exact h2
      · exact h3 z hz
    have e2 : maxI m r ≤ z := by
      rcases h1 with h1 | h1
      · rw [h1]; exact hl m List.mem_cons_self
      · exact hl _ (List.mem_cons_of_mem _ h1)
    have e3 : z = maxI m r := by omega
    rw [e3]
    exact k _ rfl) fun ns x e => by
  cases ns with
  | nil => cases e
  | cons m r =>
    cases e
    exact ⟨_, rfl⟩
theorem s_sum : OpS K (rSum K) oSum := s_ints (fun H a ns x Q sq e k => by
  cases e
  exact ⟨a, ns, rfl, sq, k _ rfl⟩) fun ns x e => by
  cases e
  exact ⟨_, rfl⟩
def oBools (f : List Bool → Bool) : List O → Option O := op1 fun a => ((lstF a).bind dBools).map fun bs => .d (.bl (f bs))
theorem s_bools {r : List V → Hp → VK → Prop} {f : List Bool → Bool} (h : ∀ (H : Hp) (a : Addr) (bs : List Bool) (Q : VK), SqL K H a (bs.map V.bl) → Q (.bl (f bs)) H → r [.ref a] H Q) : OpS K r (oBools f) := ops1 fun Γ σ e τ stk G H v a o Q rr h' ho k => by
  cases e1 : lstF a with
  | none => simp [e1] at ho
  | some xs =>
    cases e2 : dBools xs with
    | none => simp [e1, e2] at ho
    | some bs =>
      simp [e1, e2] at ho
      subst ho
      obtain ⟨p, vs, rfl, sq, rp⟩ := lstF_of rr.wd.sub h' e1
      have ev := dBools_of rp e2
      subst ev
      exact h H p bs Q sq (k _ G H (rr.pushD (.bl _)))
abbrev oAll := oBools (·.all id)
abbrev oAny := oBools (·.any id)
theorem s_all : OpS K (rAll K) oAll := s_bools fun H a bs Q sq q => ⟨a, bs, rfl, sq, q⟩
theorem s_any : OpS K (rAny K) oAny := s_bools fun H a bs Q sq q => ⟨a, bs, rfl, sq, q⟩
/-! ### dInts -/
def asIB : O → Option Int
  | .d (.int i) => some i
  | .d (.bl b) => some (if b then 1 else 0)
  | _ => none
abbrev oInt := op1 fun a => (asIB a).map fun i => .d (.int i)
theorem s_int : OpS K (fun xs H Q => (∃ i, xs = [.int i] ∧ Q (.int i) H) ∨ ∃ k, xs = [.bl k] ∧ Q (.int (if k then 1 else 0)) H) oInt := ops1 fun Γ σ e τ stk G H v a o Q rr h ho k => by
  obtain ⟨f, h⟩ := h
  cases h with
  | d h =>
    cases h with
    | int i =>
      cases ho
      exact .inl ⟨i, rfl, k _ G H (rr.pushD (.int _))⟩
    | bl b =>
      cases ho
      exact .inr ⟨b, rfl, k _ G H (rr.pushD (.int _))⟩
    | _ => cases ho
  | l => cases ho
  | t => cases ho
abbrev oAbs := op1 fun a => (asI a).map fun i => .d (.int (if i < 0 then -i else i))
theorem s_abs : OpS K (fun xs H Q => ∃ i, xs = [.int i] ∧ Q (.int (if i < 0 then -i else i)) H) oAbs := ops1 fun Γ σ e τ stk G H v a o Q rr h ho k => by
  cases e1 : asI a with
  | none => simp [e1] at ho
  | some i =>
    simp [e1] at ho
    subst ho
    obtain rfl := orep_int h e1
    exact ⟨i, rfl, k _ G H (rr.pushD (.int _))⟩
abbrev oMax2 := fI2 tt2 fun i j => .int (if i < j then j else i)
abbrev oMin2 := fI2 tt2 fun i j => .int (if j < i then j else i)
theorem ops_r2 {r : List V → Hp → VK → Prop} {f : List O → Option O} (h : OpS K (r2 fun x y => r [x, y]) f) (hf : ∀ os, os.length ≠ 2 → f os = none) : OpS K r f := by
  intro Γ σ e τ stk G H vs os o Q rr ha ho k
  match ha with
  | .nil => rw [hf _ (by simp)] at ho; cases ho
  | .cons _ .nil => rw [hf _ (by simp)] at ho; cases ho
  | .cons _ (.cons _ (.cons _ _)) => rw [hf _ (by simp)] at ho; cases ho
  | .cons h1 (.cons h2 .nil) => exact h Γ σ e τ stk G H _ _ o Q rr (.cons h1 (.cons h2 .nil)) ho k
theorem fI2_two {C : Int → Int → Bool} {g : Int → Int → D} : ∀ os : List O, os.length ≠ 2 → fI2 C g os = none
  | [], _ => rfl
  | [_], _ => rfl
  | [_, _], h => absurd rfl h
  | _ :: _ :: _ :: _, _ => rfl
theorem s_max2 : OpS K (fun xs H Q => ∃ i j, xs = [.int i, .int j] ∧ Q (.int (if j > i then j else i)) H) oMax2 := ops_r2 (ops_I2 (g := fun i j => .int (if i < j then j else i)) (fun i j H Q _ q => ⟨i, j, rfl, q⟩) fun _ _ _ => rfl) fI2_two
theorem s_min2 : OpS K (fun xs H Q => ∃ i j, xs = [.int i, .int j] ∧ Q (.int (if j < i then j else i)) H) oMin2 := ops_r2 (ops_I2 (g := fun i j => .int (if j < i then j else i)) (fun i j H Q _ q => ⟨i, j, rfl, q⟩) fun _ _ _ => rfl) fI2_two
/-! ### + of lists, of tuples -/
def oCat : List O → Option O
  | [a, b] => match tupF a, tupF b with
    | some xs, some ys => if xs.length + ys.length ≤ line then some (.d (.tup (xs ++ ys))) else none
    | _, _ => none
  | _ => none
theorem Reps.append {G : Hp} : ∀ {vs ws : List V} {xs ys : List D}, Reps K G vs xs → Reps K G ws ys → Reps K G (vs ++ ws) (xs ++ ys)
  | _, _, _, _, .nil, q => q
  | _, _, _, _, .cons h r, q => .cons h (r.append q)
theorem s_catT : OpS K (r2 (rCatA K)) oCat := by
  intro Γ σ e τ stk G H vs os o Q rr ha ho k
  match ha with
  | .nil => cases ho
  | .cons _ .nil => cases ho
  | .cons _ (.cons _ (.cons _ _)) => cases ho
  | @OAll.cons _ _ _ v a _ _ h1 (@OAll.cons _ _ _ w b _ _ h2 .nil) =>
    cases e1 : tupF a with
    | none => simp [oCat, e1] at ho
    | some xs =>
      cases e2 : tupF b with
      | none => simp [oCat, e1, e2] at ho
      | some ys =>
        by_cases hl : xs.length + ys.length ≤ line
        · simp only [oCat, e1, e2, if_pos hl] at ho
          cases ho
          obtain ⟨p, vs, rfl, sq, rp, sg⟩ := tupF_of rr.wd.sub h1 e1
          obtain ⟨p', vs', rfl, sq', rp', sg'⟩ := tupF_of rr.wd.sub h2 e2
          refine ⟨p, p', vs, vs', rfl, rfl, sq, sq', line_eq (by rw [rp.length, rp'.length]; exact hl), fun z => ?_, fun z z' => ?_, fun _ _ l hl => ?_⟩
          · subst z
            cases rp
            exact k _ G H (rr.pushD (.tup sg' rp'))
          · subst z'
            cases rp'
            rw [List.append_nil] at k
            exact k _ G H (rr.pushD (.tup sg rp))
          · exact k _ _ _ (rr.mkT (rp.append rp') hl)
        · simp only [oCat, e1, e2, if_neg hl] at ho
          cases ho
/-- lists that may still change, or that stay (not the script) -/
def lstM : O → Option (List D)
  | .d (.lst xs) => some xs
  | .l os => allD os
  | _ => none
theorem lstM_of {G H : Hp} (e : Sub G H) {v : V} {o : O} {xs : List D} (h : ∃ f, ORep K G H v o f) (hx : lstM o = some xs) : ∃ a vs, v = .ref a ∧ H a = some (.lst vs) ∧ Reps K G vs xs := by
  obtain ⟨f, h⟩ := h
  cases h with
  | d h =>
    cases h with
    | lst h r =>
      cases hx
      exact ⟨_, _, rfl, e _ _ h, r⟩
    | tup => cases hx
    | _ => cases hx
  | l h g r => exact ⟨_, _, rfl, h, allD_of r hx⟩
  | t => cases hx
def oCatL : List O → Option O
  | [a, b] => match lstM a, lstM b with
    | some xs, some ys => if xs.length + ys.length ≤ line then some (.l ((xs ++ ys).map O.d)) else none
    | _, _ => none
  | _ => none
theorem s_catL : OpS K (r2 rCat) oCatL := by
  intro Γ σ e τ stk G H vs os o Q rr ha ho k
  match ha with
  | .nil => cases ho
  | .cons _ .nil => cases ho
  | .cons _ (.cons _ (.cons _ _)) => cases ho
  | @OAll.cons _ _ _ v a _ _ h1 (@OAll.cons _ _ _ w b _ _ h2 .nil) =>
    cases e1 : lstM a with
    | none => simp [oCatL, e1] at ho
    | some xs =>
      cases e2 : lstM b with
      | none => simp [oCatL, e1, e2] at ho
      | some ys =>
        by_cases hl : xs.length + ys.length ≤ line
        · simp only [oCatL, e1, e2, if_pos hl] at ho
          cases ho
          obtain ⟨p, vs, rfl, sq, rp⟩ := lstM_of rr.wd.sub h1 e1
          obtain ⟨p', vs', rfl, sq', rp'⟩ := lstM_of rr.wd.sub h2 e2
          exact ⟨p, p', vs, vs', rfl, rfl, sq, sq', line_eq (by rw [rp.length, rp'.length]; exact hl), fun l hl => k _ _ _ (rr.mkL (rp.append rp') hl)⟩
        · simp only [oCatL, e1, e2, if_neg hl] at ho
          cases ho
end
end Dn
end
section
set_option Elab.async false
set_option linter.all false
set_option maxRecDepth 100000
set_option maxHeartbeats 4000000
/-! Dn5: what a def promises, calls. -/
namespace Dn
open PySem PySem.Spec L2
open PyProof.Rows hiding St
def noPin : Nat → Option V := fun _ => none
/-- a def of n parameters is worth f -/
def FP (K : PySem.W.Frag) (mg : Str → Option Value) (n : Nat) (f : List O → FR) : Sp := fun vs H Q E => vs.length = n ∧ ∃ (os : List O) (fp : List Addr) (G : Hp), Sub G H ∧ Cells K G H (vs.map some) (os.map some) fp ∧ fp.Nodup ∧
  match f os with
  | .ok o as => ∀ v G' H', R K ⟨H, G, fp, noPin⟩ (vs.map some) as [some v] [some o] G' H' → Q v H'
  | .exc x as => ∀ c d G' H', R K ⟨H, G, fp, noPin⟩ (vs.map some) as [] [] G' H' → XRep K mg G' H' x c d → E c d H'
  | .fail => False
def lendA : List AK → List (Option O) → Env → Option (List O × Env)
  | [], _, e => some ([], e)
  | .nm i :: ks, cs, e => match e[i]? with
    | some (some (.d x)) => (lendA ks cs.tail e).map fun p => (.d x :: p.1, p.2)
    | some (some (.l l)) => (lendA ks cs.tail (e.set i none)).map fun p => (.l l :: p.1, p.2)
    | _ => none
  | .ex _ :: ks, cs, e => match cs.headD none with
    | some o => (lendA ks cs.tail e).map fun p => (o :: p.1, p.2)
    | none => none
def backA : List AK → Env → Env → Env → Env
  | [], _, _, e' => e'
  | .nm i :: ks, as, e, e' => match e[i]? with
    | some (some (.l _)) => match as.headD none with
      | some o => backA ks as.tail e (e'.set i (some o))
      | none => backA ks as.tail e e'
    | _ => backA ks as.tail e e'
  | .ex _ :: ks, as, e, e' => backA ks as.tail e e'
def mCall (f : List O → FR) (ks : List AK) : ME := fun env => match evalA ks env with
  | .ok cs e => match lendA ks cs e with
    | some (os, e') => match f os with
      | .ok o as => .ok o (backA ks as e e')
      | .exc x as => .exc x (backA ks as e e')
      | .fail => .fail
    | none => .fail
  | .exc x e => .exc x e
  | .fail => .fail
section
variable {X : Cx} {W : WX} {np : Asm} {K : PySem.W.Frag} {mg : Str → Option Value}
section
variable {Γ : Ctx} {σ : St} {env : Env} {τ : List (Option V)} {stk : Env} {G H G' H' : Hp}
/-- the top goes under the next part -/
theorem R.unrot {vs : List (Option V)} {os : Env} {v : Option V} {o : Option O} (r : R K Γ σ env (v :: (vs ++ τ)) (o :: (os ++ stk)) G H) (hl : vs.length = os.length) : R K Γ σ env (vs ++ v :: τ) (os ++ o :: stk) G H := by
  obtain ⟨f1, f2, c, s, n, m⟩ := r.ex
  cases s with
  | skip s =>
    obtain ⟨fa, fb, e, h1, h2⟩ := s.split hl
    subst e
    exact ⟨r.wd, r.pin, f1, fa ++ fb, c, h1.append (.skip h2), n, m⟩
  | @cons _ _ f _ _ fc q s =>
    obtain ⟨fa, fb, e, h1, h2⟩ := s.split hl
    subst e
    have pm : (f1 ++ (f ++ (fa ++ fb))).Perm (f1 ++ (fa ++ (f ++ fb))) := by
      refine List.Perm.append_left f1 ?_
      rw [← List.append_assoc, ← List.append_assoc]
      exact List.Perm.append_right _ List.perm_append_comm
    exact ⟨r.wd, r.pin, f1, fa ++ (f ++ fb), c, h1.append (.cons q h2), pm.nodup_iff.mp n, fun a h => m a (pm.mem_iff.mpr h)⟩
theorem R.lend : ∀ {ks : List AK} {vs : List V} {cs : List (Option O)} {os : List O} {env env' : Env} {pre : List (Option V)} {pres : Env}, pre.length = pres.length → R K Γ σ env (pre ++ (vs.map some ++ τ)) (pres ++ (cs ++ stk)) G H → cs.length = vs.length → areNm ks σ vs → lendA ks cs env = some (os, env') → R K Γ σ env' (pre ++ (vs.map some ++ τ)) (pres ++ (os.map some ++ stk)) G H
  | [], vs, cs, os, env, env', _, _, _, r, hl, hn, hr => by
    cases hn
    cases hr
    cases cs with
    | nil => exact r
    | cons => cases hl
  | k :: ks, ws, [], os, env, env', _, _, _, r, hl, hn, hr => by
    obtain ⟨v, vs, e, n1, n2⟩ := hn
    subst e
    cases hl
  | .ex m :: ks, ws, c :: cs, os, env, env', pre, pres, hpl, r, hl, hn, hr => by
    obtain ⟨v, vs, e, n1, n2⟩ := hn
    subst e
    cases c with
    | none => simp [lendA] at hr
    | some o =>
      cases q : lendA ks cs env with
      | none => simp [lendA, q] at hr
      | some p =>
        obtain ⟨os', e'⟩ := p
        simp [lendA, q] at hr
        obtain ⟨h1, h2⟩ := hr
        subst h1 h2
        have r' := R.lend (ks := ks) (vs := vs) (cs := cs) (pre := pre ++ [some v]) (pres := pres ++ [some o]) (by simp [hpl]) (by simpa using r) (Nat.succ.inj hl) n2 q
        simpa using r'
  | .nm i :: ks, ws, c :: cs, os, env, env', pre, pres, hpl, r, hl, hn, hr => by
    obtain ⟨v, vs, e, n1, n2⟩ := hn
    subst e
    have n1' : σ[i]? = some (some v) := n1
    unfold lendA at hr
    split at hr
    · rename_i x he
      cases q : lendA ks cs env with
      | none => simp [q] at hr
      | some p =>
        obtain ⟨os', e'⟩ := p
        simp [q] at hr
        obtain ⟨h1, h2⟩ := hr
        subst h1 h2
        obtain ⟨v', e1, rp⟩ := r.slotD he
        rw [e1] at n1'
        cases n1'
        have r1 : R K Γ σ env (some v :: (pre ++ (vs.map some ++ τ))) (c :: (pres ++ (cs ++ stk))) G H := R.rot (by simpa using r) hpl
        have r2 := R.unrot (r1.pop1.pushD rp) hpl
        have r' := R.lend (ks := ks) (vs := vs) (cs := cs) (pre := pre ++ [some v]) (pres := pres ++ [some (.d x)]) (by simp [hpl]) (by simpa using r2) (Nat.succ.inj hl) n2 q
        simpa using r'
    · rename_i l he
      cases q : lendA ks cs (env.set i none) with
      | none => simp [q] at hr
      | some p =>
        obtain ⟨os', e'⟩ := p
        simp [q] at hr
        obtain ⟨h1, h2⟩ := hr
        subst h1 h2
        have r1 : R K Γ σ env (some v :: (pre ++ (vs.map some ++ τ))) (c :: (pres ++ (cs ++ stk))) G H := R.rot (by simpa using r) hpl
        obtain ⟨v', e1, r2⟩ := r1.pop1.move he
        rw [e1] at n1'
        cases n1'
        have r3 := R.unrot r2 hpl
        have r' := R.lend (ks := ks) (vs := vs) (cs := cs) (pre := pre ++ [some v]) (pres := pres ++ [some (.l l)]) (by simp [hpl]) (by simpa using r3) (Nat.succ.inj hl) n2 q
        simpa using r'
    · cases hr
theorem R.giveback : ∀ {ks : List AK} {vs : List V} {as : Env} {e env : Env} {pre : List (Option V)} {pres : Env}, pre.length = pres.length → R K Γ σ env (pre ++ (vs.map some ++ τ)) (pres ++ (as ++ stk)) G H → as.length = vs.length → areNm ks σ vs → R K Γ σ (backA ks as e env) (pre ++ τ) (pres ++ stk) G H
  | [], vs, as, e, env, pre, pres, hpl, r, hl, hn => by
    cases hn
    cases as with
    | nil => exact r
    | cons => cases hl
  | k :: ks, ws, [], e, env, _, _, _, r, hl, hn => by
    obtain ⟨v, vs, e, n1, n2⟩ := hn
    subst e
    cases hl
  | .ex m :: ks, ws, a :: as, e, env, pre, pres, hpl, r, hl, hn => by
    obtain ⟨v, vs, ee, n1, n2⟩ := hn
    subst ee
    have r1 : R K Γ σ env (some v :: (pre ++ (vs.map some ++ τ))) (a :: (pres ++ (as ++ stk))) G H := R.rot (by simpa using r) hpl
    exact R.giveback (ks := ks) hpl r1.pop1 (Nat.succ.inj hl) n2
  | .nm i :: ks, ws, a :: as, e, env, pre, pres, hpl, r, hl, hn => by
    obtain ⟨v, vs, ee, n1, n2⟩ := hn
    subst ee
    have n1' : σ[i]? = some (some v) := n1
    have r1 : R K Γ σ env (some v :: (pre ++ (vs.map some ++ τ))) (a :: (pres ++ (as ++ stk))) G H := R.rot (by simpa using r) hpl
    unfold backA
    split
    · cases a with
      | none => exact R.giveback (ks := ks) hpl r1.pop1 (Nat.succ.inj hl) n2
      | some o => exact R.giveback (ks := ks) hpl (r1.back n1') (Nat.succ.inj hl) n2
    · exact R.giveback (ks := ks) hpl r1.pop1 (Nat.succ.inj hl) n2
/-- behind a call -/
theorem R.after {vs : List (Option V)} {os : Env} {as : Env} {ρ : List (Option V)} {rs : Env} {fa : List Addr} (r : R K Γ σ env (vs ++ τ) (os ++ stk) G H) (hl : vs.length = os.length)
    (hfa : ∀ f1 fb, Cells K G H σ env f1 → Cells K G H τ stk fb → True) {f1 fb : List Addr} (c : Cells K G H σ env f1) (h1 : Cells K G H vs os fa) (h2 : Cells K G H τ stk fb) (n : (f1 ++ (fa ++ fb)).Nodup) (m : Mine Γ (f1 ++ (fa ++ fb)))
    (r' : R K ⟨H, G, fa, noPin⟩ vs as ρ rs G' H') : R K Γ σ env (ρ ++ (vs ++ τ)) (rs ++ (as ++ stk)) G' H' := by
  obtain ⟨g1, g2, c', s', n', m'⟩ := r'.ex
  have own1 : ∀ a ∈ f1, (∃ x, H a = some x) ∧ a ∉ fa := fun a h => by
    obtain ⟨⟨x, e⟩, _⟩ := c.own a h
    exact ⟨⟨_, e⟩, fun z => (List.nodup_append.mp n).2.2 a h a (List.mem_append_left _ z) rfl⟩
  have own2 : ∀ a ∈ fb, (∃ x, H a = some x) ∧ a ∉ fa := fun a h => by
    obtain ⟨⟨x, e⟩, _⟩ := h2.own a h
    exact ⟨⟨_, e⟩, fun z => (List.nodup_append.mp (List.nodup_append.mp n).2.1).2.2 a z a h rfl⟩
  have keep : ∀ f : List Addr, (∀ a ∈ f, (∃ x, H a = some x) ∧ a ∉ fa) → Keep G H G' H' f := fun f hf => ⟨r'.wd.ext, fun a h => by
    obtain ⟨⟨x, e⟩, na⟩ := hf a h
    have q := r'.wd.fr a (by show H a ≠ none; rw [e]; exact fun z => by cases z) na
    exact ⟨q.1, fun z => q.2.trans z⟩⟩
  have w : Wd Γ G' H' := {
    sub := r'.wd.sub
    ext := r.wd.ext.trans r'.wd.ext
    fr := fun a h nm => by
      have q := r.wd.fr a h nm
      have na : a ∉ fa := fun z => by
        rcases m a (List.mem_append_right _ (List.mem_append_left _ z)) with y | y
        · exact nm y
        · exact h y
      have q' := r'.wd.fr a (by show H a ≠ none; rw [q.1]; exact h) na
      exact ⟨q'.1.trans q.1, q'.2.trans q.2⟩ }
  have apart : ∀ a, (a ∈ g1 ∨ a ∈ g2) → ∀ f : List Addr, (∀ a ∈ f, (∃ x, H a = some x) ∧ a ∉ fa) → a ∉ f := fun a ha f hf z => by
    obtain ⟨⟨x, e⟩, na⟩ := hf a z
    have ha' : a ∈ g1 ++ g2 := List.mem_append.mpr ha
    rcases m' a ha' with y | y
    · exact na y
    · have y' : H a = none := y
      rw [e] at y'
      cases y'
  have mine : ∀ a, (a ∈ g1 ∨ a ∈ g2) → a ∈ Γ.P ∨ Γ.H0 a = none := fun a ha => by
    rcases m' a (List.mem_append.mpr ha) with y | y
    · exact m a (List.mem_append_right _ (List.mem_append_left _ y))
    · exact Mine.of_fresh r.wd y
  have nd1 := List.nodup_append.mp n
  have nd2 := List.nodup_append.mp nd1.2.1
  have ndg := List.nodup_append.mp n'
  refine ⟨w, r.pin, f1, g2 ++ (g1 ++ fb), c.keep (keep f1 own1), s'.append (c'.append (h2.keep (keep fb own2))), ?_, fun a h => ?_⟩
  · refine List.nodup_append.mpr ⟨nd1.1, List.nodup_append.mpr ⟨ndg.2.1, List.nodup_append.mpr ⟨ndg.1, nd2.2.1, fun a ha b hb e => ?_⟩, fun a ha b hb e => ?_⟩, fun a ha b hb e => ?_⟩
    · subst e
      exact apart a (.inl ha) fb own2 hb
    · subst e
      rcases List.mem_append.mp hb with hb | hb
      · exact ndg.2.2 a hb a ha rfl
      · exact apart a (.inr ha) fb own2 hb
    · subst e
      rcases List.mem_append.mp hb with hb | hb
      · exact apart a (.inr hb) f1 own1 ha
      · rcases List.mem_append.mp hb with hb | hb
        · exact apart a (.inl hb) f1 own1 ha
        · exact nd1.2.2 a ha a (List.mem_append_right _ hb) rfl
  · rcases List.mem_append.mp h with h | h
    · exact m a (List.mem_append_left _ h)
    · rcases List.mem_append.mp h with h | h
      · exact mine a (.inr h)
      · rcases List.mem_append.mp h with h | h
        · exact mine a (.inl h)
        · exact m a (List.mem_append_right _ (List.mem_append_right _ h))
end
/-- a def's promise, met at a call -/
theorem call_fp {Γ : Ctx} {σ : St} {env e e' : Env} {τ : List (Option V)} {stk : Env} {G H : Hp} {Q : VK} {n : Nat} {f : List O → FR} {ks : List AK} {vs : List V} {os : List O} (r : R K Γ σ e' (vs.map some ++ τ) (os.map some ++ stk) G H) (hn : vs.length = n) (hl : os.length = vs.length) (hk : areNm ks σ vs)
    (h : RsQ K mg Γ W σ τ stk (fun o e => ∀ v G' H', R K Γ σ e (some v :: τ) (some o :: stk) G' H' → Q v H') (match f os with
      | .ok o as => .ok o (backA ks as e e')
      | .exc x as => .exc x (backA ks as e e')
      | .fail => .fail)) : FP K mg n f vs H Q (WE W σ) := by
  obtain ⟨f1, f2, c, s, nd, m⟩ := r.ex
  have hl' : (vs.map some).length = (os.map some).length := by simp [hl]
  obtain ⟨fa, fb, e1, h1, h2⟩ := s.split hl'
  subst e1
  refine ⟨hn, os, fa, G, r.wd.sub, h1, (List.nodup_append.mp (List.nodup_append.mp nd).2.1).1, ?_⟩
  cases q : f os with
  | ok o as =>
    simp only [q] at h ⊢
    intro v G' H' r'
    have r2 := R.after (ρ := [some v]) (rs := [some o]) r hl' (fun _ _ _ _ => trivial) c h1 h2 nd m r'
    have la := r'.len
    exact h v G' H' (R.giveback (ks := ks) (e := e) (pre := [some v]) (pres := [some o]) rfl r2 (by rw [← la, List.length_map]) hk)
  | exc x as =>
    simp only [q] at h ⊢
    intro cc d G' H' r' xr
    have r2 := R.after (ρ := []) (rs := []) r hl' (fun _ _ _ _ => trivial) c h1 h2 nd m r'
    have la := r'.len
    exact h cc d G' H' (R.giveback (ks := ks) (e := e) (pre := []) (pres := []) rfl r2 (by rw [← la, List.length_map]) hk) xr
  | fail =>
    simp only [q] at h
    exact False.elim h
theorem lendA_len : ∀ {ks : List AK} {cs : List (Option O)} {e e' : Env} {os : List O}, lendA ks cs e = some (os, e') → os.length = ks.length
  | [], _, _, _, _, h => by
    cases h
    rfl
  | .nm i :: ks, cs, e, e', os, h => by
    unfold lendA at h
    split at h
    · cases q : lendA ks cs.tail e with
      | none => simp [q] at h
      | some p =>
        simp [q] at h
        rw [← h.1]
        simp [lendA_len (os := p.1) (e' := p.2) q]
    · cases q : lendA ks cs.tail (e.set i none) with
      | none => simp [q] at h
      | some p =>
        simp [q] at h
        rw [← h.1]
        simp [lendA_len (os := p.1) (e' := p.2) q]
    · cases h
  | .ex m :: ks, cs, e, e', os, h => by
    unfold lendA at h
    split at h
    · cases q : lendA ks cs.tail e with
      | none => simp [q] at h
      | some p =>
        simp [q] at h
        rw [← h.1]
        simp [lendA_len (os := p.1) (e' := p.2) q]
    · cases h
theorem areNm_len : ∀ {ks : List AK} {σ : St} {vs : List V}, areNm ks σ vs → vs.length = ks.length
  | [], _, _, h => by
    cases h
    rfl
  | k :: ks, σ, ws, h => by
    obtain ⟨v, vs, e, n1, n2⟩ := h
    subst e
    simp [areNm_len n2]
theorem esnd_call {t : TA} {ks : List AK} {n : Nat} {f : List O → FR} (hn : ks.length = n) (h1 : ASnd K mg W np t ks) : ESnd K mg W np (tCallS (FP K mg n f) (WE W) t) (mCall f ks) := by
  intro Γ σ env τ stk G H Q hp r h
  refine h1 Γ σ env τ stk G H _ hp r ?_
  unfold mCall at h
  cases e1 : evalA ks env with
  | ok cs e =>
    simp only [e1] at h
    intro vs G1 H1 hl r1 n1
    cases e2 : lendA ks cs e with
    | none =>
      simp only [e2] at h
      exact False.elim h
    | some p =>
      obtain ⟨os, e'⟩ := p
      simp only [e2] at h
      have r2 := R.lend (pre := []) (pres := []) rfl r1 hl n1 e2
      exact call_fp (ks := ks) (e := e) (env := e) r2 ((areNm_len n1).trans hn) ((lendA_len e2).trans (areNm_len n1).symm) n1 h
  | exc x e =>
    simp only [e1] at h
    exact h
  | fail =>
    simp only [e1] at h
    exact h
/-- a call of a def by its name -/
theorem de_call {k n : Nat} {g : Addr} {fd : FuncData} {ps : List Str} {f : List O → FR} {x : Str} {e : Expr} {es : List Expr} {p pos : Pos} {ks : List AK} (F : FnOk X.prog X.w X.K X.mg X.base (L2N.CX X.prog X.w) k g fd ps (FP X.K X.mg n f)) (hr : Room k X.A) (hm : X.mg x = some (.ref g)) (hk : PySem.W.keepIn X.K (.ref g) = true) (hb : Binds X.K fd ps [])
    (tk : L2N.Takes X W) (ha : DA X W np (e :: es) ks) (hn : ks.length = n := by rfl) (hg : Gl X x := by rfl) (hdb : (x == ("__debug__" : Str)) = false := by decide) (he : starEach (e :: es) X.env = (false, eval e X.env) :: starEach es X.env := by rfl) (hpl : (backTo pos (starEach es X.env)).any (·.1) = false := by rfl) :
    DE X W np (.Call (.Name x p) (e :: es) [] pos) (mCall f ks) := by
  obtain ⟨t, q, s⟩ := ha.ex
  exact ⟨_, pe_callS F hr hg hm hk hb (fun σ => L2N.passAt tk σ) q hdb (by exact he) (by exact hpl), esnd_call hn s⟩
end
end Dn
end
section
set_option Elab.async false
set_option linter.all false
set_option maxRecDepth 100000
set_option maxHeartbeats 4000000
/-! Dn6: statements, loops. -/
namespace Dn
open PySem PySem.Spec L2
open PyProof.Rows hiding St
def mPass : MS := fun e => .nx e
def mSeq (a b : MS) : MS := fun e => match a e with
  | .nx e1 => b e1
  | r => r
/-- an expression's value goes on -/
def onE (r : Rs O) (k : O → Env → SR) : SR := match r with
  | .ok o e => k o e
  | .exc x e => .exc x e
  | .fail => .fail
def onT (r : Rs Bool) (k : Bool → Env → SR) : SR := match r with
  | .ok o e => k o e
  | .exc x e => .exc x e
  | .fail => .fail
def putE (i : Nat) (o : O) (e : Env) : SR := if i < e.length then .nx (e.set i (some o)) else .fail
def mSet (i : Nat) (m : ME) : MS := fun e => onE (m e) (putE i)
def mRet (m : ME) : MS := fun e => onE (m e) .rt
def mRetN : MS := fun e => .rt (.d .non) e
def mExpr (m : ME) : MS := fun e => onE (m e) fun _ e1 => .nx e1
def mIf (c : Env → Rs Bool) (a b : MS) : MS := fun e => onT (c e) fun t e1 => if t then a e1 else b e1
def mIfE (c : Env → Rs Bool) (a b : ME) : ME := fun e => match c e with
  | .ok t e1 => if t then a e1 else b e1
  | .exc x e => .exc x e
  | .fail => .fail
def loopW (c : Env → Rs Bool) (b : MS) : Nat → Env → SR
  | 0, _ => .fail
  | n + 1, e => onT (c e) fun t e1 => if t then match b e1 with
      | .nx e2 => loopW c b n e2
      | .ct e2 => loopW c b n e2
      | .bk e2 => .nx e2
      | r => r
    else .nx e1
def mWhile (fuel : Env → Nat) (c : Env → Rs Bool) (b : MS) : MS := fun e => loopW c b (fuel e) e
/-- where an item goes -/
abbrev MG := Env → D → Option Env
def gN (i : Nat) : MG := fun e x => if i < e.length then some (e.set i (some (.d x))) else none
def gsT : List MG → Env → List D → Option Env
  | [], e, [] => some e
  | g :: gs, e, x :: xs => (g e x).bind fun e1 => gsT gs e1 xs
  | _, _, _ => none
def gT (gs : List MG) : MG := fun e x => match x with
  | .tup xs => gsT gs e xs
  | _ => none
def forL (g : MG) (b : MS) : List D → Env → SR
  | [], e => .nx e
  | x :: xs, e => match g e x with
    | none => .fail
    | some e1 => match b e1 with
      | .nx e2 => forL g b xs e2
      | .ct e2 => forL g b xs e2
      | .bk e2 => .nx e2
      | r => r
def mFor (it : Env → Rs (List D)) (g : MG) (b : MS) : MS := fun e => match it e with
  | .ok xs e1 => forL g b xs e1
  | .exc x e => .exc x e
  | .fail => .fail
def mUnp (m : ME) (g : MG) : MS := fun e => onE (m e) fun o e1 => match o with
  | .d x => match g e1 x with
    | some e2 => .nx e2
    | none => .fail
  | _ => .fail
section
variable {X : Cx} {W : WX} {np : Asm} {K : PySem.W.Frag} {mg : Str → Option Value}
theorem SRQ.imp {Γ : Ctx} {D D' : Ends} {r : SR} (h : SRQ K mg W Γ D r) (h1 : ∀ σ H, D.nx σ H → D'.nx σ H) (h2 : ∀ v H, D.rt v H → D'.rt v H) (h3 : ∀ σ H, D.bk σ H → D'.bk σ H) (h4 : ∀ σ H, D.ct σ H → D'.ct σ H) : SRQ K mg W Γ D' r := by
  cases r with
  | nx e => exact fun σ' G' H' r => h1 _ _ (h σ' G' H' r)
  | rt o e => exact fun σ' v G' H' r => h2 _ _ (h σ' v G' H' r)
  | bk e => exact fun σ' G' H' r => h3 _ _ (h σ' G' H' r)
  | ct e => exact fun σ' G' H' r => h4 _ _ (h σ' G' H' r)
  | exc x e => exact h
  | fail => exact h
theorem dss_nil : DSs X W np [] mPass := ⟨_, pss_nil, fun Γ σ env G H D hp r h => h σ G H r⟩
theorem dss_one {st : Stmt} {m : MS} (h : DS X W np st m) : DSs X W np [st] m := by
  obtain ⟨t, p, s⟩ := h.ex
  exact ⟨_, pss_one p, s⟩
theorem dss_cons {st : Stmt} {rest : List Stmt} {m n : MS} (h : DS X W np st m) (g : DSs X W np rest n) : DSs X W np (st :: rest) (mSeq m n) := by
  obtain ⟨t, p, s⟩ := h.ex
  obtain ⟨u, q, z⟩ := g.ex
  refine ⟨_, pss_cons p q, fun Γ σ env G H D hp r h => ?_⟩
  refine s Γ σ env G H _ hp r ?_
  unfold mSeq at h
  cases e : m env with
  | nx e1 =>
    rw [e] at h
    exact fun σ' G' H' r' => z Γ σ' e1 G' H' D hp r' h
  | rt o e1 =>
    rw [e] at h
    exact h
  | bk e1 =>
    rw [e] at h
    exact h
  | ct e1 =>
    rw [e] at h
    exact h
  | exc x e1 =>
    rw [e] at h
    exact h
  | fail =>
    rw [e] at h
    exact h
theorem ds_pass {pos : Pos} : DS X W np (.Pass pos) mPass := ⟨_, ps_pass, fun Γ σ env G H D hp r h => h σ G H r⟩
theorem ds_break {pos : Pos} : DS X W np (.Break pos) (fun e => .bk e) := ⟨_, ps_break, fun Γ σ env G H D hp r h => h σ G H r⟩
theorem ds_cont {pos : Pos} : DS X W np (.Continue pos) (fun e => .ct e) := ⟨_, ps_continue, fun Γ σ env G H D hp r h => h σ G H r⟩
/-- an expression's outcome, for a statement -/
theorem onE_q {Γ : Ctx} {σ : St} {D : Ends} {r : Rs O} {k : O → Env → SR} (h : SRQ K mg W Γ D (onE r k)) : RsQ K mg Γ W σ [] [] (fun o e => SRQ K mg W Γ D (k o e)) r := by
  cases r with
  | ok o e => exact h
  | exc x e => exact fun c d G' H' r q => h σ c d G' H' r q
  | fail => exact h
theorem onT_q {Γ : Ctx} {σ : St} {D : Ends} {r : Rs Bool} {k : Bool → Env → SR} (h : SRQ K mg W Γ D (onT r k)) : RsQ K mg Γ W σ [] [] (fun o e => SRQ K mg W Γ D (k o e)) r := by
  cases r with
  | ok o e => exact h
  | exc x e => exact fun c d G' H' r q => h σ c d G' H' r q
  | fail => exact h
theorem ssnd_set {i : Nat} {t : TE} {m : ME} (hi : i ∉ np.np) (s : ESnd K mg W np t m) : SSnd K mg W np (tAsg t (gName i)) (mSet i m) := by
  intro Γ σ env G H D hp r h
  refine s Γ σ env [] [] G H _ hp r ((onE_q h).imp fun o e q v G' H' r' => ?_)
  unfold putE at q
  split at q
  · rename_i hl
    have pn : Γ.pin i = none := by
      cases e : Γ.pin i with
      | none => rfl
      | some v => exact absurd (hp.1 i v e) hi
    exact q _ G' H' (r'.store hl pn)
  · exact False.elim q
theorem ds_set {i : Nat} {x : Str} {e : Expr} {m : ME} {pos pos' : Pos} (hN : X.N.Nodup) (h : DE X W np e m) (hi : i ∉ np.np := by decide) (hx : X.N[i]? = some x := by rfl) (hl : Loc X.env.scope x := by first | exact Or.inl rfl | exact Or.inr rfl) (hs : swapsWith e (some (.Name x pos')) pos.line X.env = pure false := by rfl) (hf : X.fn x = true ∨ X.env.scope.names.lookup x = some .local := by first | exact .inl rfl | exact .inr rfl) : DS X W np (.Assign [.Name x pos'] e pos) (mSet i m) := by
  obtain ⟨t, p, s⟩ := h.ex
  exact ⟨_, ps_set hN hx hl p hs hf, ssnd_set hi s⟩
theorem ds_ret {e : Expr} {m : ME} {pos : Pos} (h : DE X W np e m) : DS X W np (.Return (some e) pos) (mRet m) := by
  obtain ⟨t, p, s⟩ := h.ex
  refine ⟨_, ps_ret p, fun Γ σ env G H D hp r h => ?_⟩
  exact s Γ σ env [] [] G H _ hp r ((onE_q h).imp fun o e q v G' H' r' => q σ v G' H' r')
theorem ds_retN {pos : Pos} : DS X W np (.Return none pos) mRetN := ⟨_, ps_retN, fun Γ σ env G H D hp r h => h σ .non G H (r.pushD .non)⟩
theorem ds_expr {e : Expr} {m : ME} {pos : Pos} (h : DE X W np e m) (hs : swapsWith e none pos.line X.env = pure false := by rfl) : DS X W np (.Expr e pos) (mExpr m) := by
  obtain ⟨t, p, s⟩ := h.ex
  refine ⟨_, ps_expr p hs, fun Γ σ env G H D hp r h => ?_⟩
  exact s Γ σ env [] [] G H _ hp r ((onE_q h).imp fun o e q v G' H' r' => q σ G' H' r'.pop)
theorem ds_if {c : Expr} {a b : List Stmt} {mc : Env → Rs Bool} {ma mb : MS} {pos : Pos} (hc : DT X W np c mc) (ha : DSs X W np a ma) (hb : DSs X W np b mb) : DS X W np (.If c a b pos) (mIf mc ma mb) := by
  obtain ⟨t, p, s⟩ := hc.ex
  obtain ⟨t1, p1, s1⟩ := ha.ex
  obtain ⟨t2, p2, s2⟩ := hb.ex
  refine ⟨_, ps_if p p1 p2, fun Γ σ env G H D hp r h => ?_⟩
  refine s Γ σ env [] [] G H _ hp r ((onT_q h).imp fun b e q G' H' r' => ?_)
  cases b with
  | true =>
    rw [if_pos rfl] at q ⊢
    exact s1 Γ σ e G' H' D hp r' q
  | false =>
    rw [if_neg Bool.false_ne_true] at q ⊢
    exact s2 Γ σ e G' H' D hp r' q
theorem de_ifE {c a b : Expr} {mc : Env → Rs Bool} {ma mb : ME} {pos : Pos} (hc : DT X W np c mc) (ha : DE X W np a ma) (hb : DE X W np b mb) : DE X W np (.IfExp c a b pos) (mIfE mc ma mb) := by
  obtain ⟨t, p, s⟩ := hc.ex
  obtain ⟨t1, p1, s1⟩ := ha.ex
  obtain ⟨t2, p2, s2⟩ := hb.ex
  refine ⟨_, pe_ifExp p p1 p2, fun Γ σ env τ stk G H Q hp r h => ?_⟩
  refine s Γ σ env τ stk G H _ hp r ?_
  unfold mIfE at h
  cases e : mc env with
  | ok b e1 =>
    rw [e] at h
    intro G' H' r'
    cases b with
    | true => exact s1 Γ σ e1 τ stk G' H' Q hp r' h
    | false => exact s2 Γ σ e1 τ stk G' H' Q hp r' h
  | exc x e1 =>
    rw [e] at h
    exact h
  | fail =>
    rw [e] at h
    exact h
theorem ds_while {c : Expr} {body : List Stmt} {mc : Env → Rs Bool} {mb : MS} {pos : Pos} (fuel : Env → Nat) (po : PassesOwn (model X.prog X.w) X.A X.env X.xe) (hc : DT X W np c mc) (hb : DSs X W np body mb) : DS X W np (.While c body [] pos) (mWhile fuel mc mb) := by
  obtain ⟨t, p, s⟩ := hc.ex
  obtain ⟨t1, p1, s1⟩ := hb.ex
  refine ⟨_, ps_while po p p1, fun Γ σ env G H D hp r h => ?_⟩
  refine ⟨fun n σ H => ∃ G env, R X.K Γ σ env [] [] G H ∧ SRQ X.K X.mg W Γ D (loopW mc mb n env), ⟨fuel env, G, env, r, h⟩, ?_⟩
  rintro n σ H ⟨G, env, r, h⟩
  cases n with
  | zero => exact False.elim h
  | succ n =>
    unfold loopW at h
    refine s Γ σ env [] [] G H _ hp r ((onT_q h).imp fun b e q G' H' r' => ?_)
    cases b with
    | false =>
      rw [if_neg Bool.false_ne_true] at q ⊢
      exact q σ G' H' r'
    | true =>
      rw [if_pos rfl] at q ⊢
      refine ⟨fun σ' H' => ∃ G env, R X.K Γ σ' env [] [] G H' ∧ SRQ X.K X.mg W Γ D (loopW mc mb n env), fun σ' H' ⟨G, env, r, h⟩ => ⟨n, Nat.lt_succ_self n, G, env, r, h⟩, ?_⟩
      refine s1 Γ σ e G' H' _ hp r' ?_
      cases eb : mb e with
      | nx e2 =>
        simp only [eb] at q
        exact fun σ' G' H' r => ⟨G', e2, r, q⟩
      | ct e2 =>
        simp only [eb] at q
        exact fun σ' G' H' r => ⟨G', e2, r, q⟩
      | bk e2 =>
        simp only [eb] at q
        exact fun σ' G' H' r => q σ' G' H' r
      | rt o e2 =>
        simp only [eb] at q
        exact q
      | exc x e2 =>
        simp only [eb] at q
        exact q
      | fail =>
        simp only [eb] at q
        exact q
/-! ### targets -/
def GSnd (K : PySem.W.Frag) (np : Asm) (t : TG) (g : MG) : Prop := ∀ (Γ : Ctx) (σ : St) (e e1 : Env) (τ : List (Option V)) (stk : Env) (G H : Hp) (v : V) (x : D) (Q : St → Hp → Prop), PinOk Γ np → R K Γ σ e τ stk G H → Rep K G v x → g e x = some e1 → (∀ σ', R K Γ σ' e1 τ stk G H → Q σ' H) → t v σ H Q
def GsSnd (K : PySem.W.Frag) (np : Asm) (t : TGs) (gs : List MG) : Prop := ∀ (Γ : Ctx) (σ : St) (e e1 : Env) (τ : List (Option V)) (stk : Env) (G H : Hp) (vs : List V) (xs : List D) (Q : St → Hp → Prop), PinOk Γ np → R K Γ σ e τ stk G H → Reps K G vs xs → gsT gs e xs = some e1 → (∀ σ', R K Γ σ' e1 τ stk G H → Q σ' H) → t vs σ H Q
structure DG (X : Cx) (np : Asm) (tg : Expr) (g : MG) : Prop where
  ex : ∃ t, PG X tg t ∧ GSnd X.K np t g
structure DGs (X : Cx) (np : Asm) (tg : List Expr) (g : List MG) : Prop where
  ex : ∃ t, PGs X tg t ∧ GsSnd X.K np t g
theorem gsnd_n {i : Nat} (hi : i ∉ np.np) : GSnd K np (gName i) (gN i) := by
  intro Γ σ e e1 τ stk G H v x Q hp r rx h k
  unfold gN at h
  split at h
  · rename_i hl
    cases h
    have pn : Γ.pin i = none := by
      cases e : Γ.pin i with
      | none => rfl
      | some v => exact absurd (hp.1 i v e) hi
    exact k _ ((r.pushD rx).store hl pn)
  · cases h
theorem dg_n {i : Nat} {x : Str} {pos : Pos} (hN : X.N.Nodup) (hi : i ∉ np.np := by decide) (hx : X.N[i]? = some x := by rfl) (hl : Loc X.env.scope x := by first | exact Or.inl rfl | exact Or.inr rfl) (hf : X.fn x = true ∨ X.env.scope.names.lookup x = some .local := by first | exact .inl rfl | exact .inr rfl) : DG X np (.Name x pos) (gN i) :=
  ⟨_, pg_name hN hx hl hf, gsnd_n hi⟩
end
end Dn
end
section
set_option Elab.async false
set_option linter.all false
set_option maxRecDepth 100000
set_option maxHeartbeats 4000000
/-! Dn7: tuple targets, what is walked, for, comprehensions. -/
namespace Dn
open PySem PySem.Spec L2
open PyProof.Rows hiding St
section
variable {X : Cx} {W : WX} {np : Asm} {K : PySem.W.Frag} {mg : Str → Option Value}
theorem dgs_nil : DGs X np [] [] := ⟨_, pgs_nil, fun Γ σ e e1 τ stk G H vs xs Q hp r rx h k => by
  cases rx with
  | nil =>
    cases h
    exact ⟨rfl, k σ r⟩
  | cons => cases h⟩
theorem gsnd_cons {t : TG} {u : TGs} {g : MG} {gs : List MG} (h1 : GSnd K np t g) (h2 : GsSnd K np u gs) : GsSnd K np (gCons t u) (g :: gs) := by
  intro Γ σ e e1 τ stk G H vs xs Q hp r rx h k
  cases rx with
  | nil => cases h
  | @cons v x vs xs q rx =>
    unfold gsT at h
    cases q1 : g e x with
    | none => rw [q1] at h; cases h
    | some e' =>
      rw [q1] at h
      exact ⟨v, vs, rfl, h1 Γ σ e e' τ stk G H v x _ hp r q q1 fun σ' r' => h2 Γ σ' e' e1 τ stk G H vs xs Q hp r' rx h k⟩
theorem dgs_cons {e : Expr} {es : List Expr} {g : MG} {gs : List MG} (h1 : DG X np e g) (h2 : DGs X np es gs) (hs : (assignEach (e :: es) X.env).map (·.2) = assign e X.env :: (assignEach es X.env).map (·.2) := by rfl) : DGs X np (e :: es) (g :: gs) := by
  obtain ⟨t, p, s⟩ := h1.ex
  obtain ⟨u, q, z⟩ := h2.ex
  exact ⟨_, pgs_cons p q (by exact hs), gsnd_cons s z⟩
theorem gsT_len : ∀ {gs : List MG} {e e1 : Env} {xs : List D}, gsT gs e xs = some e1 → xs.length = gs.length
  | [], _, _, [], _ => rfl
  | [], _, _, _ :: _, h => by cases h
  | _ :: _, _, _, [], h => by cases h
  | g :: gs, e, e1, x :: xs, h => by
    unfold gsT at h
    cases q : g e x with
    | none => rw [q] at h; cases h
    | some e' =>
      rw [q] at h
      simp [gsT_len (gs := gs) h]
theorem dg_t {es : List Expr} {k : Nat} {gs : List MG} {pos : Pos} (hc : X.calm = true) (h : DGs X np es gs) (hn : (assignEach es X.env).length = gs.length := by rfl) (hst : (assignEach es X.env).findIdx? (·.1) = none := by rfl) : DG X np (.Tuple es k pos) (gT gs) := by
  obtain ⟨t, p, s⟩ := h.ex
  refine ⟨_, pg_tup hc p hn hst, fun Γ σ e e1 τ stk G H v x Q hp r rx h k => ?_⟩
  cases rx with
  | @tup a vs xs hq rx =>
    refine ⟨a, vs, rfl, r.wd.sub.sqT hq, rx.length.trans (gsT_len h), s Γ σ e e1 τ stk G H vs xs Q hp r rx h k⟩
  | _ => cases h
theorem ds_unp {tg e : Expr} {m : ME} {g : MG} {pos : Pos} (h : DE X W np e m) (hg : DG X np tg g) (hs : swapsWithSole [tg] e pos.line X.env = pure false := by rfl) (hw : swappedStores [tg] e X.env = pure none := by rfl) (h1 : (assignEach [tg] X.env).map (·.2) = [assign tg X.env] := by rfl) : DS X W np (.Assign [tg] e pos) (mUnp m g) := by
  obtain ⟨t, p, s⟩ := h.ex
  obtain ⟨u, q, z⟩ := hg.ex
  refine ⟨_, ps_asg p q hs hw h1, fun Γ σ env G H D hp r h => ?_⟩
  refine s Γ σ env [] [] G H _ hp r ((onE_q h).imp fun o e qq v G' H' r' => ?_)
  cases o with
  | l => exact False.elim qq
  | t => exact False.elim qq
  | d x =>
    simp only at qq
    cases e2 : g e x with
    | none => simp only [e2] at qq; exact False.elim qq
    | some e3 =>
      simp only [e2] at qq
      exact z Γ σ e e3 [] [] G' H' v x _ hp r'.pop r'.topD e2 fun σ' r2 => qq σ' G' H' r2
/-! ### what is walked -/
/-- while G and what is more stays, J walks xs; a pair may be new -/
def Wk (K : PySem.W.Frag) (G0 : Hp) (J : It) (xs : List D) : Prop := ∀ (G H : Hp), Sub G0 G → Sub G H →
  (∀ i, i < xs.length → J.go i H) ∧ J.stop xs.length H ∧ ∀ (i : Nat) (x : D), xs[i]? = some x → ∀ v H', J.yld i H v H' →
    (H' = H ∧ Rep K G v x) ∨ ∃ (T : Addr) (vs : List V) (ys : List D), v = .ref T ∧ H T = none ∧ H' = upd H T (.tup vs) ∧ x = .tup ys ∧ Reps K G vs ys
def ISnd (K : PySem.W.Frag) (mg : Str → Option Value) (W : WX) (np : Asm) (t : TI) (m : Env → Rs (List D)) : Prop := ∀ (Γ : Ctx) (σ : St) (env : Env) (τ : List (Option V)) (stk : Env) (G H : Hp) (Q : It → Hp → Prop), PinOk Γ np → R K Γ σ env τ stk G H →
  RsQ K mg Γ W σ τ stk (fun xs e => ∀ J G' H', R K Γ σ e τ stk G' H' → Wk K G' J xs → Q J H') (m env) → t σ H Q
structure DI (X : Cx) (W : WX) (np : Asm) (tg it : Expr) (m : Env → Rs (List D)) : Prop where
  ex : ∃ t, PI X tg it t ∧ ISnd X.K X.mg W np t m
/-- a value's items -/
def mIt (f : D → Option (List D)) (m : ME) : Env → Rs (List D) := fun e => match m e with
  | .ok o e1 => match f (frz o) with
    | some xs => .ok xs e1
    | none => .fail
  | .exc x e => .exc x e
  | .fail => .fail
theorem mIt_q {Γ : Ctx} {σ : St} {τ : List (Option V)} {stk : Env} {P : List D → Env → Prop} {f : D → Option (List D)} {m : ME} {env : Env} (h : RsQ K mg Γ W σ τ stk P (mIt f m env)) : RsQ K mg Γ W σ τ stk (fun o e => ∃ xs, f (frz o) = some xs ∧ P xs e) (m env) := by
  unfold mIt at h
  cases q : m env with
  | ok o e =>
    simp only [q] at h
    cases q2 : f (frz o) with
    | none => simp only [q2] at h; exact False.elim h
    | some xs =>
      simp only [q2] at h
      exact ⟨xs, q2, h⟩
  | exc x e =>
    simp only [q] at h
    exact h
  | fail =>
    simp only [q] at h
    exact h
def itL : D → Option (List D)
  | .lst xs => some xs
  | .scr xs => some xs
  | _ => none
def itT : D → Option (List D)
  | .tup xs => some xs
  | _ => none
theorem itL_of {G : Hp} {v : V} {x : D} {xs : List D} (r : Rep K G v x) (h : itL x = some xs) : ∃ a vs, v = .ref a ∧ SqL K G a vs ∧ Reps K G vs xs := by
  cases r with
  | lst hq r =>
    cases h
    exact ⟨_, _, rfl, .inl (.inl hq), r⟩
  | scr hq r =>
    cases h
    exact ⟨_, _, rfl, hq, r⟩
  | _ => cases h
theorem itT_of {G : Hp} {v : V} {x : D} {xs : List D} (r : Rep K G v x) (h : itT x = some xs) : ∃ a vs, v = .ref a ∧ SqT K G a vs ∧ Reps K G vs xs := by
  cases r with
  | tup hq r =>
    cases h
    exact ⟨_, _, rfl, hq, r⟩
  | _ => cases h
theorem wk_at {G0 : Hp} {J : It} {n : Nat} {Gd : Hp → Prop} {vs : List V} {xs : List D} (w : Walk J n Gd (YAt vs)) (rp : Reps K G0 vs xs) (hn : n = vs.length) (hg : ∀ G H, Sub G0 G → Sub G H → Gd H) : Wk K G0 J xs := by
  intro G H s1 s2
  have g := hg G H s1 s2
  have hl := rp.length
  refine ⟨fun i hi => w.goes i H (by omega) g, by rw [← hl, ← hn]; exact w.stops H g, fun i x hx v H' y => ?_⟩
  have hi : i < xs.length := (List.getElem?_eq_some_iff.mp hx).1
  obtain ⟨e1, e2⟩ := w.yields i H v H' (by omega) g y
  obtain ⟨z, h1, h2⟩ := rp.getV e2
  rw [hx] at h1
  cases h1
  exact .inl ⟨e1, h2.mono s1⟩
theorem di_list {tg e : Expr} {m : ME} (h : DE X W np e m) : DI X W np tg e (mIt itL m) := by
  obtain ⟨t, p, s⟩ := h.ex
  refine ⟨_, pi_list p, fun Γ σ env τ stk G H Q hp r h => s Γ σ env τ stk G H _ hp r ((mIt_q h).imp fun o e ⟨xs, e1, q⟩ v G' H' r' => ?_)⟩
  obtain ⟨G2, r2⟩ := r'.frz
  obtain ⟨a, vs, rfl, sq, rp⟩ := itL_of r2.topD e1
  exact ⟨a, rfl, ⟨vs, r2.wd.sub.sqL sq⟩, q _ G2 H' r2.pop (wk_at walk_list rp rfl fun G H s1 s2 => s2.sqL (s1.sqL sq))⟩
theorem di_tup {tg e : Expr} {m : ME} (h : DE X W np e m) : DI X W np tg e (mIt itT m) := by
  obtain ⟨t, p, s⟩ := h.ex
  refine ⟨_, pi_tup p, fun Γ σ env τ stk G H Q hp r h => s Γ σ env τ stk G H _ hp r ((mIt_q h).imp fun o e ⟨xs, e1, q⟩ v G' H' r' => ?_)⟩
  obtain ⟨G2, r2⟩ := r'.frz
  obtain ⟨a, vs, rfl, sq, rp⟩ := itT_of r2.topD e1
  exact ⟨a, rfl, ⟨vs, r2.wd.sub.sqT sq⟩, q _ G2 H' r2.pop (wk_at walk_tup rp rfl fun G H s1 s2 => s2.sqT (s1.sqT sq))⟩
/-- reversed(a list or a tuple) -/
def itR : D → Option (List D)
  | .tup xs => some xs.reverse
  | .lst xs => some xs.reverse
  | .scr xs => some xs.reverse
  | _ => none
theorem walk_revT {a : Addr} {xs : List V} : Walk (RT.ItvT K a xs.length) xs.length (fun H => SqT K H a xs) (fun i H x H' => H' = H ∧ xs[xs.length - 1 - i]? = some x) :=
  ⟨fun i _ hi q => ⟨hi, xs, xs[xs.length - 1 - i]'(by omega), q, by simp [show xs.length - 1 - i < xs.length by omega]⟩, fun _ _ => Nat.le_refl _, fun _ _ _ _ _ q y => ⟨y.1, y.2 xs q⟩⟩
theorem wk_rev {G0 : Hp} {J : It} {Gd : Hp → Prop} {vs : List V} {xs : List D} (w : Walk J vs.length Gd (fun i H x H' => H' = H ∧ vs[vs.length - 1 - i]? = some x)) (rp : Reps K G0 vs xs) (hg : ∀ G H, Sub G0 G → Sub G H → Gd H) : Wk K G0 J xs.reverse := by
  intro G H s1 s2
  have g := hg G H s1 s2
  have hl := rp.length
  refine ⟨fun i hi => w.goes i H (by rw [List.length_reverse] at hi; omega) g, by rw [List.length_reverse, ← hl]; exact w.stops H g, fun i x hx v H' y => ?_⟩
  have hi : i < xs.reverse.length := (List.getElem?_eq_some_iff.mp hx).1
  rw [List.length_reverse] at hi
  obtain ⟨e1, e2⟩ := w.yields i H v H' (by omega) g y
  obtain ⟨z, h1, h2⟩ := rp.getV e2
  rw [List.getElem?_reverse (by omega), ← hl, h1] at hx
  cases hx
  exact .inl ⟨e1, h2.mono s1⟩
theorem di_rev {tg e : Expr} {m : ME} {p pos : Pos} (hm : X.mg "reversed" = none) (h : DE X W np e m) (hg : Gl X "reversed" := by rfl) (hs : starEach [e] X.env = (false, eval e X.env) :: starEach [] X.env := by rfl) : DI X W np tg (.Call (.Name "reversed" p) [e] [] pos) (mIt itR m) := by
  obtain ⟨t, p, s⟩ := h.ex
  refine ⟨_, RT.pi_revA hg hm p hs, fun Γ σ env τ stk G H Q hp r h => s Γ σ env τ stk G H _ hp r ((mIt_q h).imp fun o e ⟨xs, e1, q⟩ v G' H' r' => ?_)⟩
  obtain ⟨G2, r2⟩ := r'.frz
  have rd := r2.topD
  cases hd : frz o with
  | tup ys =>
    rw [hd] at e1 rd
    cases e1
    obtain ⟨a, vs, rfl, sq, rp⟩ := itT_of rd rfl
    exact ⟨a, vs, rfl, .inr ⟨r2.wd.sub.sqT sq, q _ G2 H' r2.pop (wk_rev walk_revT rp fun G H s1 s2 => s2.sqT (s1.sqT sq))⟩⟩
  | lst ys =>
    rw [hd] at e1 rd
    cases e1
    obtain ⟨a, vs, rfl, sq, rp⟩ := itL_of rd rfl
    exact ⟨a, vs, rfl, .inl ⟨r2.wd.sub.sqL sq, q _ G2 H' r2.pop (wk_rev walk_rev rp fun G H s1 s2 => s2.sqL (s1.sqL sq))⟩⟩
  | scr ys =>
    rw [hd] at e1 rd
    cases e1
    obtain ⟨a, vs, rfl, sq, rp⟩ := itL_of rd rfl
    exact ⟨a, vs, rfl, .inl ⟨r2.wd.sub.sqL sq, q _ G2 H' r2.pop (wk_rev walk_rev rp fun G H s1 s2 => s2.sqL (s1.sqL sq))⟩⟩
  | _ =>
    rw [hd] at e1
    cases e1
/-- lo, lo + 1, .. -/
def rgD (lo : Int) (n : Nat) : List D := (List.range n).map fun (i : Nat) => D.int (lo + i)
theorem wk_range {G0 : Hp} {lo : Int} {n : Nat} : Wk K G0 (Itr lo n) (rgD lo n) := by
  intro G H s1 s2
  have hl : (rgD lo n).length = n := by unfold rgD; rw [List.length_map, List.length_range]
  refine ⟨fun i hi => by rw [hl] at hi; exact hi, by rw [hl]; exact Nat.le_refl _, fun i x hx v H' y => ?_⟩
  obtain ⟨e1, e2⟩ := y
  have hi : i < n := by
    have := (List.getElem?_eq_some_iff.mp hx).1
    rw [hl] at this
    exact this
  unfold rgD at hx
  rw [List.getElem?_map, List.getElem?_range hi] at hx
  cases hx
  subst e2
  exact .inl ⟨e1, .int _⟩
def rgOk (i : Int) : Bool := decide (-(2 ^ 62) ≤ i ∧ i < 2 ^ 62)
/-- range(n), range(a, b): from the operands -/
def mRg (ks : List AK) : Env → Rs (List D) := fun env => match evalA ks env with
  | .ok cs e => match resA ks cs e with
    | some [a] => match asI a with
      | some n => if rgOk n then .ok (rgD 0 n.toNat) e else .fail
      | none => .fail
    | some [a, b] => match asI a, asI b with
      | some i, some j => if rgOk i && rgOk j then .ok (rgD i (j - i).toNat) e else .fail
      | _, _ => .fail
    | _ => .fail
  | .exc x e => .exc x e
  | .fail => .fail
theorem di_range1 {tg a : Expr} {k : AK} {p pos : Pos} (hm : X.mg "range" = none) (h : DA X W np [a] [k]) (hg : Gl X "range" := by rfl) (hs : starEach [a] X.env = [(false, eval a X.env)] := by rfl) : DI X W np tg (.Call (.Name "range" p) [a] [] pos) (mRg [k]) := by
  obtain ⟨t, p, s⟩ := h.ex
  refine ⟨_, pi_range1 hg hm p hs, fun Γ σ env τ stk G H Q hp r h => s Γ σ env τ stk G H _ hp r ?_⟩
  unfold mRg at h
  cases e1 : evalA [k] env with
  | ok cs e =>
    simp only [e1] at h
    intro vs G1 H1 hl r1 n1
    split at h
    · rename_i a e2
      have ha := oall_of (pre := []) (pres := []) rfl r1 hl n1 e2
      match ha with
      | @OAll.cons _ _ _ v _ _ _ h1 .nil =>
        cases e3 : asI a with
        | none => simp only [e3] at h; exact False.elim h
        | some n =>
          simp only [e3] at h
          split at h
          · rename_i hc
            obtain rfl := orep_int h1 e3
            obtain ⟨c1, c2⟩ := of_decide_eq_true (p := -(2 ^ 62) ≤ n ∧ n < 2 ^ 62) hc
            exact ⟨n, rfl, c1, c2, h _ G1 H1 (R.popN (by simp [hl]) r1) wk_range⟩
          · exact False.elim h
    · rename_i a b e2
      have ha := oall_of (pre := []) (pres := []) rfl r1 hl n1 e2
      have := areNm_len n1
      match ha, this with
      | .cons _ (.cons _ .nil), h => cases h
    · exact False.elim h
  | exc x e =>
    simp only [e1] at h
    exact h
  | fail =>
    simp only [e1] at h
    exact h
theorem di_range2 {tg a b : Expr} {k k' : AK} {p pos : Pos} (hm : X.mg "range" = none) (h : DA X W np [a, b] [k, k']) (hg : Gl X "range" := by rfl) (hs : starEach [a, b] X.env = [(false, eval a X.env), (false, eval b X.env)] := by rfl) (hs2 : starEach [b] X.env = [(false, eval b X.env)] := by rfl) : DI X W np tg (.Call (.Name "range" p) [a, b] [] pos) (mRg [k, k']) := by
  obtain ⟨t, p, s⟩ := h.ex
  refine ⟨_, pi_range2 hg hm p hs hs2, fun Γ σ env τ stk G H Q hp r h => s Γ σ env τ stk G H _ hp r ?_⟩
  unfold mRg at h
  cases e1 : evalA [k, k'] env with
  | ok cs e =>
    simp only [e1] at h
    intro vs G1 H1 hl r1 n1
    split at h
    · rename_i a e2
      have ha := oall_of (pre := []) (pres := []) rfl r1 hl n1 e2
      have := areNm_len n1
      match ha, this with
      | .cons _ .nil, h => cases h
    · rename_i a b e2
      have ha := oall_of (pre := []) (pres := []) rfl r1 hl n1 e2
      match ha with
      | @OAll.cons _ _ _ v _ _ _ h1 (@OAll.cons _ _ _ w _ _ _ h2 .nil) =>
        cases e3 : asI a with
        | none => simp only [e3] at h; exact False.elim h
        | some i =>
          cases e4 : asI b with
          | none => simp only [e3, e4] at h; exact False.elim h
          | some j =>
            simp only [e3, e4] at h
            split at h
            · rename_i hc
              obtain rfl := orep_int h1 e3
              obtain rfl := orep_int h2 e4
              obtain ⟨b1, b2⟩ := Bool.and_eq_true_iff.mp hc
              obtain ⟨c1, c2⟩ := of_decide_eq_true (p := -(2 ^ 62) ≤ i ∧ i < 2 ^ 62) b1
              obtain ⟨c3, c4⟩ := of_decide_eq_true (p := -(2 ^ 62) ≤ j ∧ j < 2 ^ 62) b2
              exact ⟨i, j, rfl, ⟨c1, c2, c3, c4⟩, h _ G1 H1 (R.popN (by simp [hl]) r1) wk_range⟩
            · exact False.elim h
    · exact False.elim h
  | exc x e =>
    simp only [e1] at h
    exact h
  | fail =>
    simp only [e1] at h
    exact h
/-- the pairs of places and items -/
def numD : Nat → List D → List D
  | _, [] => []
  | n, x :: xs => .tup [.int n, x] :: numD (n + 1) xs
theorem numD_get : ∀ (xs : List D) (n i : Nat), (numD n xs)[i]? = xs[i]?.map fun x => .tup [.int ((n + i : Nat) : Int), x]
  | [], n, i => by simp [numD]
  | x :: xs, n, 0 => by simp [numD]
  | x :: xs, n, i + 1 => by
    have := numD_get xs (n + 1) i
    simp only [numD, List.getElem?_cons_succ, this]
    rw [show n + 1 + i = n + (i + 1) by omega]
theorem numD_len : ∀ (xs : List D) (n : Nat), (numD n xs).length = xs.length
  | [], n => rfl
  | x :: xs, n => congrArg (· + 1) (numD_len xs (n + 1))
theorem wk_num {G0 : Hp} {J : It} {Gd : Hp → Prop} {vs : List V} {xs : List D} (w : Walk J vs.length Gd (YPair (fun i => some (.int (i : Nat))) (fun i => vs[i]?))) (rp : Reps K G0 vs xs) (hg : ∀ G H, Sub G0 G → Sub G H → Gd H) : Wk K G0 J (numD 0 xs) := by
  intro G H s1 s2
  have g := hg G H s1 s2
  have hl := rp.length
  refine ⟨fun i hi => w.goes i H (by rw [numD_len] at hi; omega) g, by rw [numD_len, ← hl]; exact w.stops H g, fun i x hx v H' y => ?_⟩
  have hi : i < (numD 0 xs).length := (List.getElem?_eq_some_iff.mp hx).1
  rw [numD_len] at hi
  obtain ⟨T, x1, y1, e1, e2, e3, e4, e5⟩ := w.yields i H v H' (by omega) g y
  obtain ⟨z, h1, h2⟩ := rp.getV e5
  rw [numD_get, h1] at hx
  cases hx
  cases e4
  refine .inr ⟨T, _, _, e1, e2, e3, rfl, .cons ?_ (.cons (h2.mono s1) .nil)⟩
  rw [Nat.zero_add]
  exact .int _
def itE : D → Option (List D)
  | .lst xs => some (numD 0 xs)
  | .scr xs => some (numD 0 xs)
  | _ => none
theorem di_enumL {e : Expr} {es : List Expr} {kk : Nat} {m : ME} {p pos tpos : Pos} (hm : X.mg "enumerate" = none) (h : DE X W np e m) (hg : Gl X "enumerate" := by rfl) (hs : starEach [e] X.env = [(false, eval e X.env)] := by rfl) (hs' : starEach [e] X.env = (false, eval e X.env) :: starEach [] X.env := by rfl) : DI X W np (.Tuple es kk tpos) (.Call (.Name "enumerate" p) [e] [] pos) (mIt itE m) := by
  obtain ⟨t, p, s⟩ := h.ex
  refine ⟨_, pi_enum hg hm (pa_cons p pa_nil hs') hs, fun Γ σ env τ stk G H Q hp r h => s Γ σ env τ stk G H _ hp r ((mIt_q h).imp fun o e ⟨xs, e1, q⟩ v G' H' r' => ?_)⟩
  obtain ⟨G2, r2⟩ := r'.frz
  have rd := r2.topD
  cases hd : frz o with
  | lst ys =>
    rw [hd] at e1 rd
    cases e1
    obtain ⟨a, vs, rfl, sq, rp⟩ := itL_of rd rfl
    exact ⟨a, vs, rfl, r2.wd.sub.sqL sq, q _ G2 H' r2.pop (wk_num walk_enum rp fun G H s1 s2 => s2.sqL (s1.sqL sq))⟩
  | scr ys =>
    rw [hd] at e1 rd
    cases e1
    obtain ⟨a, vs, rfl, sq, rp⟩ := itL_of rd rfl
    exact ⟨a, vs, rfl, r2.wd.sub.sqL sq, q _ G2 H' r2.pop (wk_num walk_enum rp fun G H s1 s2 => s2.sqL (s1.sqL sq))⟩
  | _ =>
    rw [hd] at e1
    cases e1
/-! ### for -/
/-- an item comes -/
theorem wk_item {Γ : Ctx} {σ : St} {e e1 : Env} {τ : List (Option V)} {stk : Env} {G G0 H : Hp} {J : It} {xs : List D} {g : MG} {t : TG} {i : Nat} {x : D} {v : V} {H' : Hp} {Q : St → Hp → Prop} (hp : PinOk Γ np) (hg : GSnd K np t g) (w : Wk K G0 J xs) (s0 : Sub G0 G) (r : R K Γ σ e τ stk G H) (hx : xs[i]? = some x) (y : J.yld i H v H') (he : g e x = some e1)
    (k : ∀ σ' G', Sub G G' → R K Γ σ' e1 τ stk G' H' → Q σ' H') : t v σ H' Q := by
  obtain ⟨_, _, h⟩ := w G H s0 r.wd.sub
  rcases h i x hx v H' y with ⟨e2, rp⟩ | ⟨T, vs, ys, e2, hT, e3, e4, rp⟩
  · subst e2
    exact hg Γ σ e e1 τ stk G H' v x Q hp r rp he fun σ' r' => k σ' G (Sub.refl G) r'
  · subst e2 e3 e4
    obtain ⟨r1, sg⟩ := r.newG (o := .tup vs) hT
    exact hg Γ σ e e1 τ stk _ _ _ _ Q hp r1 (.tup (.inl (.inl upd_same)) (rp.mono sg)) he fun σ' r' => k σ' _ sg r'
theorem drop_get {α : Type} {xs r : List α} {i : Nat} {x : α} (h : xs.drop i = x :: r) : xs[i]? = some x ∧ xs.drop (i + 1) = r := by
  have h1 : (xs.drop i)[0]? = some x := by rw [h]; rfl
  rw [List.getElem?_drop] at h1
  refine ⟨h1, ?_⟩
  have h2 : (xs.drop i).tail = r := by rw [h]; rfl
  rw [List.tail_drop] at h2
  exact h2
/-- the state is looked at from here on -/
theorem R.rebase {Γ : Ctx} {σ : St} {e : Env} {τ : List (Option V)} {stk : Env} {G H : Hp} (r : R K Γ σ e τ stk G H) : ∃ P : List Addr, R K ⟨H, G, P, Γ.pin⟩ σ e τ stk G H ∧ ∀ σ' e' τ' stk' G' H', R K ⟨H, G, P, Γ.pin⟩ σ' e' τ' stk' G' H' → R K Γ σ' e' τ' stk' G' H' := by
  obtain ⟨f1, f2, c, s, n, m⟩ := r.ex
  refine ⟨f1 ++ f2, ⟨⟨r.wd.sub, Sub.refl G, fun a _ _ => ⟨rfl, rfl⟩⟩, r.pin, f1, f2, c, s, n, fun a h => .inl h⟩, fun σ' e' τ' stk' G' H' r' => ?_⟩
  obtain ⟨g1, g2, c', s', n', m'⟩ := r'.ex
  refine ⟨⟨r'.wd.sub, r.wd.ext.trans r'.wd.ext, fun a h nm => ?_⟩, r'.pin, g1, g2, c', s', n', fun a h => ?_⟩
  · have q := r.wd.fr a h nm
    have na : a ∉ f1 ++ f2 := fun z => by
      rcases m a z with y | y
      · exact nm y
      · exact h y
    have q' := r'.wd.fr a (by show H a ≠ none; rw [q.1]; exact h) na
    exact ⟨q'.1.trans q.1, q'.2.trans q.2⟩
  · rcases m' a h with y | y
    · exact m a y
    · exact Mine.of_fresh r.wd y
theorem SRQ.base {Γ Γ1 : Ctx} {D : Ends} {s : SR} (k : ∀ σ' e' τ' stk' G' H', R K Γ1 σ' e' τ' stk' G' H' → R K Γ σ' e' τ' stk' G' H') (h : SRQ K mg W Γ D s) : SRQ K mg W Γ1 D s := by
  cases s with
  | nx e => exact fun σ' G' H' r => h σ' G' H' (k _ _ _ _ _ _ r)
  | rt o e => exact fun σ' v G' H' r => h σ' v G' H' (k _ _ _ _ _ _ r)
  | bk e => exact fun σ' G' H' r => h σ' G' H' (k _ _ _ _ _ _ r)
  | ct e => exact fun σ' G' H' r => h σ' G' H' (k _ _ _ _ _ _ r)
  | exc x e => exact fun σ' c d G' H' r => h σ' c d G' H' (k _ _ _ _ _ _ r)
  | fail => exact h
theorem ssnd_for {wi : TI} {t : TG} {tb : TS} {mi : Env → Rs (List D)} {g : MG} {mb : MS} (h1 : ISnd K mg W np wi mi) (h2 : GSnd K np t g) (h3 : SSnd K mg W np tb mb) : SSnd K mg W np (tFor wi t tb) (mFor mi g mb) := by
  intro Γ σ env G H D hp r h
  refine h1 Γ σ env [] [] G H _ hp r ?_
  unfold mFor at h
  cases e1 : mi env with
  | ok xs e =>
    simp only [e1] at h
    intro J G1 H1 r1' w
    obtain ⟨P, r1, kb⟩ := r1'.rebase
    replace h : SRQ K mg W ⟨H1, G1, P, Γ.pin⟩ D (forL g mb xs e) := h.base kb
    replace hp : PinOk ⟨H1, G1, P, Γ.pin⟩ np := hp.base r1'.wd.ext
    generalize eΓ : (⟨H1, G1, P, Γ.pin⟩ : Ctx) = Γ1 at r1 h hp
    have eG : Γ1.G0 = G1 := by rw [← eΓ]
    refine ⟨fun i m σ H => m = xs.length - i ∧ i ≤ xs.length ∧ ∃ G e, R K Γ1 σ e [] [] G H ∧ SRQ K mg W Γ1 D (forL g mb (xs.drop i) e), ⟨xs.length, by simp, Nat.zero_le _, G1, e, r1, h⟩, ?_⟩
    rintro i m σ H ⟨rfl, hi, G2, e2, r2, q⟩
    have s2 : Sub G1 G2 := by
      have := r2.wd.ext
      rw [eG] at this
      exact this
    obtain ⟨go, stop, _⟩ := w G2 H s2 r2.wd.sub
    cases hd : xs.drop i with
    | nil =>
      have hl : xs.length ≤ i := by
        have := congrArg List.length hd
        simp at this
        omega
      have ei : i = xs.length := by omega
      subst ei
      rw [hd] at q
      exact .inl ⟨stop, q σ G2 H r2⟩
    | cons x rest =>
      obtain ⟨hx, hr⟩ := drop_get hd
      have hlt : i < xs.length := (List.getElem?_eq_some_iff.mp hx).1
      rw [hd] at q
      unfold forL at q
      cases eg : g e2 x with
      | none => simp only [eg] at q; exact False.elim q
      | some e3 =>
        simp only [eg] at q
        refine .inr ⟨go i hlt, fun σ' H' => ∃ G e, R K Γ1 σ' e [] [] G H' ∧ SRQ K mg W Γ1 D (forL g mb rest e), fun σ' H' ⟨G', e', r', q'⟩ => ⟨xs.length - (i + 1), by omega, rfl, hlt, G', e', r', by rw [hr]; exact q'⟩, fun v H' y => ?_⟩
        refine wk_item hp h2 w s2 r2 hx y eg fun σ' G' sg r' => ?_
        refine h3 Γ1 σ' e3 G' H' _ hp r' ?_
        cases eb : mb e3 with
        | nx e4 =>
          simp only [eb] at q
          exact fun σ' G' H' r => ⟨G', e4, r, q⟩
        | ct e4 =>
          simp only [eb] at q
          exact fun σ' G' H' r => ⟨G', e4, r, q⟩
        | bk e4 =>
          simp only [eb] at q
          exact fun σ' G' H' r => q σ' G' H' r
        | rt o e4 =>
          simp only [eb] at q
          exact q
        | exc x e4 =>
          simp only [eb] at q
          exact q
        | fail =>
          simp only [eb] at q
          exact q
  | exc x e =>
    simp only [e1] at h
    exact fun c d G' H' r q => h σ c d G' H' r q
  | fail =>
    simp only [e1] at h
    exact h
theorem ds_for {tg it : Expr} {body : List Stmt} {mi : Env → Rs (List D)} {g : MG} {mb : MS} {pos : Pos} (po : PassesOwn (model X.prog X.w) X.A X.env X.xe) (hc : X.calm = true) (hi : DI X W np tg it mi) (hg : DG X np tg g) (hb : DSs X W np body mb) (hs : ∀ x, foldedSetIterable it X.env x = pure x := by intro _; rfl) : DS X W np (.For tg it body [] pos) (mFor mi g mb) := by
  obtain ⟨t, p, s⟩ := hi.ex
  obtain ⟨u, q, z⟩ := hg.ex
  obtain ⟨v, p', s'⟩ := hb.ex
  exact ⟨_, ps_for po hc p q p' hs, ssnd_for s z s'⟩
end
end Dn
end
section
set_option Elab.async false
set_option linter.all false
set_option maxRecDepth 100000
set_option maxHeartbeats 4000000
/-! Dn8: comprehensions, slices, zip. -/
namespace Dn
open PySem PySem.Spec L2
open PyProof.Rows hiding St
def clr (e : Env) : List Nat → Env
  | [] => e
  | v :: vs => (clr e vs).set v none
def compL (vs : List Nat) (g : MG) (c : Env → Rs Bool) (m : ME) : List D → Env → List O → Rs (List O)
  | [], e, acc => .ok acc e
  | x :: xs, e, acc => match g e x with
    | none => .fail
    | some e1 => match c e1 with
      | .ok true e2 => match m e2 with
        | .ok o e3 => if acc.length < 16000000 then compL vs g c m xs (clr e3 vs) (acc ++ [o]) else .fail
        | _ => .fail
      | .ok false e2 => compL vs g c m xs (clr e2 vs) acc
      | _ => .fail
def mComp (it : Env → Rs (List D)) (vs : List Nat) (g : MG) (c : Env → Rs Bool) (m : ME) : ME := fun env => match it env with
  | .ok xs e => match compL vs g c m xs (clr e vs) [] with
    | .ok acc e2 => .ok (.l acc) e2
    | _ => .fail
  | .exc x e => .exc x e
  | .fail => .fail
def mYes : Env → Rs Bool := fun e => .ok true e
def W0 : WX := fun _ _ _ _ => False
section
variable {X : Cx} {W : WX} {np : Asm} {K : PySem.W.Frag} {mg : Str → Option Value}
structure DTs (X : Cx) (W : WX) (np : Asm) (ifs : List Expr) (m : Env → Rs Bool) : Prop where
  ex : ∃ t, PTs X ifs t ∧ TSnd X.K X.mg W np t m
theorem dts_nil : DTs X W np [] mYes := ⟨_, pts_nil, fun Γ σ env τ stk G H Q hp r h => h G H r⟩
theorem dts_one {c : Expr} {m : Env → Rs Bool} (h : DT X W np c m) : DTs X W np [c] m := by
  obtain ⟨t, p, s⟩ := h.ex
  exact ⟨_, pts_one p, s⟩
/-! one reading for all contexts -/
abbrev BlkIx := Shared × Hp × Addr × List (Str × Addr) × List Addr
abbrev blkAt (X : Cx) (scope : Scope) (i : BlkIx) : Cx := X.blk i.1 i.2.1 scope (compEnvC scope i.2.2.2.1 i.2.2.1 X.env) i.2.2.2.2
theorem uni_e {scope : Scope} {e : Expr} {m : ME} (h : ∀ i : BlkIx, DE (blkAt X scope i) W np e m) : ∃ t, (∀ i : BlkIx, PE (blkAt X scope i) e t) ∧ ESnd X.K X.mg W np t m := by
  refine ⟨fun σ H Q => ∀ i : BlkIx, ∃ t, PE (blkAt X scope i) e t ∧ t σ H Q, fun i => ⟨fun pins s σ H Q I hq => ?_⟩, fun Γ σ env τ stk G H Q hp r q i => ?_⟩
  · obtain ⟨t, p, hq⟩ := hq i
    exact p.run pins s σ H Q I hq
  · obtain ⟨t, p, s⟩ := (h i).ex
    exact ⟨t, p, s Γ σ env τ stk G H Q hp r q⟩
theorem uni_ts {scope : Scope} {e : List Expr} {m : Env → Rs Bool} (h : ∀ i : BlkIx, DTs (blkAt X scope i) W np e m) : ∃ t, (∀ i : BlkIx, PTs (blkAt X scope i) e t) ∧ TSnd X.K X.mg W np t m := by
  refine ⟨fun σ H Q => ∀ i : BlkIx, ∃ t, PTs (blkAt X scope i) e t ∧ t σ H Q, fun i => ⟨fun pins s σ H Q I hq => ?_⟩, fun Γ σ env τ stk G H Q hp r q i => ?_⟩
  · obtain ⟨t, p, hq⟩ := hq i
    exact p.run pins s σ H Q I hq
  · obtain ⟨t, p, s⟩ := (h i).ex
    exact ⟨t, p, s Γ σ env τ stk G H Q hp r q⟩
/-- a target that stores in vs alone -/
def GW (t : TG) (vs : List Nat) : Prop := ∀ (v : V) (σ : St) (H : Hp) (Q : St → Hp → Prop), t v σ H (fun σ2 H2 => wipe σ2 vs = wipe σ vs → Q σ2 H2) → t v σ H Q
def GsW (t : TGs) (vs : List Nat) : Prop := ∀ (v : List V) (σ : St) (H : Hp) (Q : St → Hp → Prop), t v σ H (fun σ2 H2 => wipe σ2 vs = wipe σ vs → Q σ2 H2) → t v σ H Q
theorem wipe_get {σ : St} {j : Nat} : ∀ {vs : List Nat}, j ∈ vs → (wipe σ vs)[j]? = if j < σ.length then some none else none
  | [], h => by cases h
  | v :: vs, h => by
    unfold wipe
    rw [List.getElem?_set, wipe_length]
    by_cases e : v = j
    · subst e
      rw [if_pos rfl]
    · rw [if_neg e]
      rcases List.mem_cons.mp h with z | z
      · exact absurd z.symm e
      · exact wipe_get z
theorem wipe_wipe {σ : St} {vs : List Nat} : wipe (wipe σ vs) vs = wipe σ vs := by
  apply List.ext_getElem?
  intro j
  by_cases h : j ∈ vs
  · rw [wipe_get h, wipe_get h, wipe_length]
  · rw [wipe_out h]
theorem wipe_set {σ : St} {i : Nat} {x : Option V} : ∀ {vs : List Nat}, i ∈ vs → wipe (σ.set i x) vs = wipe σ vs
  | [], h => by cases h
  | v :: vs, h => by
    unfold wipe
    by_cases e : i ∈ vs
    · rw [wipe_set e]
    · have ev : i = v := by
        rcases List.mem_cons.mp h with z | z
        · exact z
        · exact absurd z e
      subst ev
      have aux : ∀ {ws : List Nat}, i ∉ ws → wipe (σ.set i x) ws = (wipe σ ws).set i x := by
        intro ws
        induction ws with
        | nil => intro _; rfl
        | cons w ws ih =>
          intro hw
          unfold wipe
          rw [ih (fun z => hw (List.mem_cons_of_mem _ z)), List.set_comm _ _ (fun z => hw (by rw [z]; exact List.mem_cons_self))]
      rw [aux e, List.set_set]
theorem gw_n {i : Nat} {vs : List Nat} (h : i ∈ vs) : GW (gName i) vs := fun v σ H Q q => q (wipe_set h)
theorem gsw_nil {vs : List Nat} : GsW gNil vs := fun v σ H Q q => ⟨q.1, q.2 rfl⟩
theorem gsw_cons {t : TG} {u : TGs} {vs : List Nat} (hm : ∀ v σ H (Q Q' : St → Hp → Prop), (∀ s h, Q s h → Q' s h) → t v σ H Q → t v σ H Q') (h1 : GW t vs) (h2 : GsW u vs) : GsW (gCons t u) vs := fun v σ H Q ⟨x, r, e, q⟩ => ⟨x, r, e, h1 _ _ _ _ (hm _ _ _ _ _ (fun s h a w => h2 r s h Q (by rw [w]; exact a)) q)⟩
theorem gw_t {t : TGs} {n : Nat} {vs : List Nat} (h : GsW t vs) : GW (gTup K n t) vs := fun v σ H Q ⟨a, xs, e, sq, hl, q⟩ => ⟨a, xs, e, sq, hl, h xs σ H Q q⟩
theorem gm_n {i : Nat} : ∀ v σ H (Q Q' : St → Hp → Prop), (∀ s h, Q s h → Q' s h) → gName i v σ H Q → gName i v σ H Q' := fun v σ H Q Q' h q => h _ _ q
theorem Cells.clr {G H : Hp} : ∀ {vs : List Nat} {σ : St} {e : Env} {f : List Addr}, Cells K G H σ e f → ∃ g, Cells K G H (wipe σ vs) (clr e vs) g ∧ g.Sublist f
  | [], _, _, f, c => ⟨f, c, .refl _⟩
  | v :: vs, _, _, f, c => by
    obtain ⟨g, c1, s1⟩ := c.clr (vs := vs)
    obtain ⟨g', c2, s2⟩ := c1.clear (i := v) none
    exact ⟨g', c2, s2.trans s1⟩
theorem R.clr {Γ : Ctx} {σ : St} {e : Env} {τ : List (Option V)} {stk : Env} {G H : Hp} {vs : List Nat} (r : R K Γ σ e τ stk G H) (hv : ∀ i ∈ vs, Γ.pin i = none) : R K Γ (wipe σ vs) (Dn.clr e vs) τ stk G H := by
  obtain ⟨f1, f2, c, s, n, m⟩ := r.ex
  obtain ⟨g, c1, s1⟩ := c.clr (vs := vs)
  have sl : (g ++ f2).Sublist (f1 ++ f2) := List.Sublist.append s1 (List.Sublist.refl _)
  refine ⟨r.wd, fun i v h => ?_, g, f2, c1, s, n.sublist sl, fun a h => m a (sl.subset h)⟩
  have : i ∉ vs := fun z => by
    rw [hv i z] at h
    cases h
  rw [wipe_out this]
  exact r.pin i v h
theorem Cells.anyV {G H : Hp} : ∀ {σ σ' : St} {e : Env} {f : List Addr}, Cells K G H σ e f → σ'.length = σ.length → (∀ (i : Nat) (o : O), e[i]? = some (some o) → σ'[i]? = σ[i]?) → Cells K G H σ' e f
  | _, [], _, _, .nil, _, _ => .nil
  | _, _ :: _, _, _, .nil, h, _ => by cases h
  | _, [], _, _, .skip _, h, _ => by cases h
  | _, [], _, _, .cons _ _, h, _ => by cases h
  | _, v' :: vs', _, _, .skip r, h, k => .skip (r.anyV (Nat.succ.inj h) fun i o q => k (i + 1) o q)
  | _, v' :: vs', _, _, .cons (o := o) q r, h, k => by
    have e0 := k 0 o rfl
    cases e0
    exact .cons q (r.anyV (Nat.succ.inj h) fun i o q => k (i + 1) o q)
theorem clr_in {i : Nat} {o : O} : ∀ {vs : List Nat} {e : Env}, (Dn.clr e vs)[i]? = some (some o) → i ∉ vs
  | [], _, _ => by simp
  | v :: vs, e, h => by
    unfold Dn.clr at h
    by_cases ev : v = i
    · subst ev
      rw [List.getElem?_set] at h
      simp at h
    · rw [List.getElem?_set_ne ev] at h
      have := clr_in h
      intro z
      rcases List.mem_cons.mp z with z | z
      · exact ev z.symm
      · exact this z
/-- from the wiped slots back -/
theorem R.unclr {Γ : Ctx} {σ : St} {e : Env} {τ : List (Option V)} {stk : Env} {G H : Hp} {vs : List Nat} (r : R K Γ (wipe σ vs) (Dn.clr e vs) τ stk G H) : R K Γ σ (Dn.clr e vs) τ stk G H := by
  obtain ⟨f1, f2, c, s, n, m⟩ := r.ex
  refine ⟨r.wd, fun i v h => ?_, f1, f2, c.anyV (wipe_length σ vs).symm fun i o h => (wipe_out (clr_in h)).symm, s, n, m⟩
  exact (wipe_some (r.pin i v h)).1
theorem RsQ.base {α : Type} {Γ Γ1 : Ctx} {σ : St} {τ : List (Option V)} {stk : Env} {P P' : α → Env → Prop} {r : Rs α} (k : ∀ σ' e' τ' stk' G' H', R K Γ1 σ' e' τ' stk' G' H' → R K Γ σ' e' τ' stk' G' H') (h : RsQ K mg Γ W σ τ stk P r) (i : ∀ a e, P a e → P' a e) : RsQ K mg Γ1 W σ τ stk P' r := by
  cases r with
  | ok o e => exact i o e h
  | exc x e => exact fun c d G' H' r q => h c d G' H' (k _ _ _ _ _ _ r) q
  | fail => exact h
/-- one more item lies on top of the new list -/
theorem R.push {Γ : Ctx} {σ : St} {e : Env} {τ : List (Option V)} {stk : Env} {G H : Hp} {y : V} {o : O} {p : Addr} {acc : List O} (r : R K Γ σ e (some y :: some (.ref p) :: τ) (some o :: some (.l acc) :: stk) G H) : ∃ vs, H p = some (.lst vs) ∧ vs.length = acc.length ∧ R K Γ σ e (some (.ref p) :: τ) (some (.l (acc ++ [o])) :: stk) G (upd H p (.lst (vs ++ [y]))) := by
  obtain ⟨f1, f2, c, s, n, m⟩ := r.ex
  cases s with
  | @cons _ _ fy _ _ fr hy s =>
    cases s with
    | @cons _ _ fl _ _ fb hl s =>
      cases hl with
      | @l _ vs _ fa hp hg hl =>
        have keep : ∀ {v : List V} {os : List O} {f : List Addr}, OReps K G H v os f → ORep K G H y o fy → OReps K G H (v ++ [y]) (os ++ [o]) (f ++ fy) := by
          intro v os f h
          induction v generalizing os f with
          | nil =>
            intro hy
            cases h
            have := OReps.cons hy OReps.nil
            rw [List.append_nil] at this
            exact this
          | cons v r ih =>
            intro hy
            cases h with
            | cons h1 h2 =>
              rw [List.append_assoc]
              exact .cons h1 (ih h2 hy)
        have nd := List.nodup_append.mp n
        have nd2 := List.nodup_append.mp nd.2.1
        have nd3 := List.nodup_append.mp nd2.2.1
        have pm : (f1 ++ (fy ++ ((p :: fa) ++ fb))).Perm (f1 ++ ((p :: (fa ++ fy)) ++ fb)) := by
          refine List.Perm.append_left f1 ?_
          rw [← List.append_assoc]
          refine List.Perm.append_right fb ?_
          exact List.perm_append_comm (l₁ := fy) (l₂ := p :: fa)
        have np' := pm.nodup_iff.mp n
        have kp : ∀ f : List Addr, p ∉ f → Keep G H G (upd H p (.lst (vs ++ [y]))) f := fun f hf => ⟨Sub.refl G, fun a h => ⟨upd_ne (fun z => hf (by rw [← z]; exact h)), fun z => z⟩⟩
        have n1 := List.nodup_append.mp np'
        have n2 := List.nodup_append.mp n1.2.1
        have n3 := List.nodup_cons.mp n2.1
        have p1 : p ∉ f1 := fun z => n1.2.2 p z p (List.mem_append_left _ List.mem_cons_self) rfl
        have p2 : p ∉ fb := fun z => n2.2.2 p List.mem_cons_self p z rfl
        have hpw : Γ.H0 p ≠ none → p ∈ Γ.P := fun z => by
          have hm : p ∈ f1 ++ (fy ++ ((p :: fa) ++ fb)) := List.mem_append_right _ (List.mem_append_right _ (List.mem_append_left _ List.mem_cons_self))
          rcases m p hm with y | y
          · exact y
          · exact absurd y z
        have w : Wd Γ G (upd H p (.lst (vs ++ [y]))) := {
          sub := fun a x e => by
            rw [upd_ne (fun z => by rw [z, hg] at e; cases e)]
            exact r.wd.sub a x e
          ext := r.wd.ext
          fr := fun a h nm => by
            have ne : a ≠ p := fun z => by
              rw [z] at h nm
              exact nm (hpw h)
            rw [upd_ne ne]
            exact r.wd.fr a h nm }
        exact ⟨vs, hp, hl.length, w, r.pin, f1, (p :: (fa ++ fy)) ++ fb, c.keep (kp _ p1), .cons (.l upd_same hg ((keep hl hy).keep (kp _ n3.1))) (s.keep (kp _ p2)), np', fun a h => m a (pm.mem_iff.mpr h)⟩
theorem esnd_comp {wi : TI} {t : TG} {tt : TT} {te : TE} {vs : List Nat} {mi : Env → Rs (List D)} {g : MG} {c : Env → Rs Bool} {m : ME} (hv : ∀ i ∈ vs, i ∉ np.np) (h1 : ISnd K mg W np wi mi) (h2 : GSnd K np t g) (hw : GW t vs) (h3 : TSnd K mg W0 np tt c) (h4 : ESnd K mg W0 np te m) : ESnd K mg W np (tLc wi t tt te vs) (mComp mi vs g c m) := by
  intro Γ σ env τ stk G H Q hp r h
  refine h1 Γ σ env τ stk G H _ hp r ?_
  unfold mComp at h
  cases e1 : mi env with
  | ok xs e =>
    simp only [e1] at h
    intro J G1 H1 r1' w
    cases e2 : compL vs g c m xs (clr e vs) [] with
    | exc x e3 => simp only [e2] at h; exact False.elim h
    | fail => simp only [e2] at h; exact False.elim h
    | ok acc e3 =>
      simp only [e2] at h
      obtain ⟨P, r1, kb⟩ := r1'.rebase
      replace h : ∀ v G' H', R K ⟨H1, G1, P, Γ.pin⟩ σ e3 (some v :: τ) (some (.l acc) :: stk) G' H' → Q v H' := fun v G' H' r => h v G' H' (kb _ _ _ _ _ _ r)
      replace hp : PinOk ⟨H1, G1, P, Γ.pin⟩ np := hp.base r1'.wd.ext
      generalize eΓ : (⟨H1, G1, P, Γ.pin⟩ : Ctx) = Γ1 at r1 h hp
      have eG : Γ1.G0 = G1 := by rw [← eΓ]
      have pv : ∀ i ∈ vs, Γ1.pin i = none := fun i hi => by
        cases q : Γ1.pin i with
        | none => rfl
        | some v => exact absurd (hp.1 i v q) (hv i hi)
      intro p hpn
      refine ⟨fun i n H => n = xs.length - i ∧ i ≤ xs.length ∧ ∃ G e a, R K Γ1 (wipe σ vs) (clr e vs) (some (.ref p) :: τ) (some (.l a) :: stk) G H ∧ compL vs g c m (xs.drop i) (clr e vs) a = .ok acc e3, ⟨xs.length, by simp, Nat.zero_le _, G1, e, [], ?_, e2⟩, ?_⟩
      · exact R.newL (vs := []) (os := []) (r1.clr pv) rfl hpn
      · rintro i n H2 ⟨rfl, hi, G2, e4, a, r2, q⟩
        have s2 : Sub G1 G2 := by
          have := r2.wd.ext
          rw [eG] at this
          exact this
        obtain ⟨go, stop, _⟩ := w G2 H2 s2 r2.wd.sub
        cases hd : xs.drop i with
        | nil =>
          have hl : xs.length ≤ i := by
            have := congrArg List.length hd
            simp at this
            omega
          have ei : i = xs.length := by omega
          subst ei
          rw [hd] at q
          unfold compL at q
          cases q
          exact .inl ⟨stop, h _ G2 H2 r2.unclr⟩
        | cons x rest =>
          obtain ⟨hx, hr⟩ := drop_get hd
          have hlt : i < xs.length := (List.getElem?_eq_some_iff.mp hx).1
          rw [hd] at q
          unfold compL at q
          cases eg : g (clr e4 vs) x with
          | none => simp only [eg] at q; cases q
          | some e5 =>
            simp only [eg] at q
            refine .inr ⟨go i hlt, fun H' => ∃ G e a, R K Γ1 (wipe σ vs) (clr e vs) (some (.ref p) :: τ) (some (.l a) :: stk) G H' ∧ compL vs g c m rest (clr e vs) a = .ok acc e3, fun H' ⟨G', e', a', r', q'⟩ => ⟨xs.length - (i + 1), by omega, rfl, hlt, G', e', a', r', by rw [hr]; exact q'⟩, fun v H' y => ?_⟩
            refine hw v (wipe σ vs) H' _ (wk_item hp h2 w s2 r2 hx y eg fun σ' G' sg r' wq => ?_)
            rw [wipe_wipe] at wq
            refine ⟨wq, ?_⟩
            have nx : ∀ {e6 : Env} {G3 H3 : Hp} {a' : List O}, R K Γ1 σ' e6 (some (.ref p) :: τ) (some (.l a') :: stk) G3 H3 → R K Γ1 (wipe σ vs) (clr e6 vs) (some (.ref p) :: τ) (some (.l a') :: stk) G3 H3 := fun r => by
              have z := r.clr pv
              rw [wq] at z
              exact z
            refine h3 Γ1 σ' e5 _ _ G' H' _ hp r' ?_
            cases ec : c e5 with
            | ok b e6 =>
              intro G3 H3 r3
              cases b with
              | false =>
                simp only [ec] at q
                rw [if_neg Bool.false_ne_true]
                exact ⟨G3, e6, a, nx r3, q⟩
              | true =>
                simp only [ec] at q
                rw [if_pos rfl]
                refine h4 Γ1 σ' e6 _ _ G3 H3 _ hp r3 ?_
                cases em : m e6 with
                | ok o e7 =>
                  simp only [em] at q
                  split at q
                  · rename_i hlen
                    intro v4 G4 H4 r4
                    obtain ⟨us, hp4, hl4, r5⟩ := r4.push
                    refine ⟨us, hp4, ?_, G4, e7, a ++ [o], nx r5, q⟩
                    rw [sizeLine_eq]
                    omega
                  · cases q
                | exc x e7 =>
                  simp only [em] at q
                  cases q
                | fail =>
                  simp only [em] at q
                  cases q
            | exc x e6 =>
              simp only [ec] at q
              cases q
            | fail =>
              simp only [ec] at q
              cases q
  | exc x e =>
    simp only [e1] at h
    exact h
  | fail =>
    simp only [e1] at h
    exact h
end
end Dn
end
section
set_option Elab.async false
set_option linter.all false
set_option maxRecDepth 100000
set_option maxHeartbeats 4000000
/-! Dn9: a def by its body; comprehensions as expressions. -/
namespace Dn
open PySem PySem.Spec L2
open PyProof.Rows hiding St
def asOf (np : List Nat) (n : Nat) (e : Env) : Env := (List.range n).map fun i => if np.contains i then (e[i]?).join else none
/-- a def of so many names, its body worth m; np: parameters that it never stores -/
def fnD (np : List Nat) (len : Nat) (m : MS) : List O → FR := fun os => match m (os.map some ++ List.replicate (len - os.length) none) with
  | .nx e => .ok (.d .non) (asOf np os.length e)
  | .rt o e => .ok o (asOf np os.length e)
  | .exc x e => .exc x (asOf np os.length e)
  | _ => .fail
section
variable {X : Cx} {W : WX} {K : PySem.W.Frag} {mg : Str → Option Value}
theorem Cells.nones {G H : Hp} : ∀ {vs : List (Option V)} {os : Env}, vs.length = os.length → (∀ (i : Nat) (o : O), os[i]? ≠ some (some o)) → Cells K G H vs os []
  | [], [], _, _ => .nil
  | [], _ :: _, h, _ => by cases h
  | _ :: _, [], h, _ => by cases h
  | _ :: _, none :: _, h, k => .skip (Cells.nones (Nat.succ.inj h) fun i o q => k (i + 1) o q)
  | _ :: _, some o :: _, h, k => absurd rfl (k 0 o)
theorem Cells.mask {G H : Hp} : ∀ {σ : List (Option V)} {e : Env} {f : List Addr} {vs : List (Option V)} {as : Env}, Cells K G H σ e f → vs.length = as.length → (∀ (i : Nat) (o : O), as[i]? = some (some o) → e[i]? = some (some o) ∧ vs[i]? = σ[i]?) → ∃ g, Cells K G H vs as g ∧ g.Sublist f
  | _, _, _, _, _, .nil, hl, h => ⟨[], Cells.nones hl fun i o q => by
      have := (h i o q).1
      simp at this, .refl _⟩
  | _, _, _, [], [], .skip _, _, _ => ⟨[], .nil, List.nil_sublist _⟩
  | _, _, _, [], [], .cons _ _, _, _ => ⟨[], .nil, List.nil_sublist _⟩
  | _, _, _, [], _ :: _, _, h, _ => by cases h
  | _, _, _, _ :: _, [], _, h, _ => by cases h
  | _, _, _, v :: vs, a :: as, .skip r, hl, h => by
    cases a with
    | some o =>
      have := (h 0 o rfl).1
      cases this
    | none =>
      obtain ⟨g, c, s⟩ := r.mask (vs := vs) (as := as) (Nat.succ.inj hl) fun i o q => h (i + 1) o q
      exact ⟨g, .skip c, s⟩
  | _, _, _, v :: vs, a :: as, .cons (f := f) (o := o') q r, hl, h => by
    obtain ⟨g, c, s⟩ := r.mask (vs := vs) (as := as) (Nat.succ.inj hl) fun i o q => h (i + 1) o q
    cases a with
    | none => exact ⟨g, .skip c, s.trans (List.sublist_append_right _ _)⟩
    | some o =>
      have h0 := h 0 o rfl
      have e1 : o' = o := Option.some.inj (Option.some.inj h0.1)
      have e2 := Option.some.inj h0.2
      subst e1 e2
      exact ⟨f ++ g, .cons q c, List.Sublist.append (.refl _) s⟩
theorem asOf_get {np : List Nat} {n i : Nat} {o : O} {e : Env} (h : (asOf np n e)[i]? = some (some o)) : i < n ∧ i ∈ np ∧ e[i]? = some (some o) := by
  unfold asOf at h
  rw [List.getElem?_map] at h
  by_cases hi : i < n
  · rw [List.getElem?_range hi] at h
    have h' : (if np.contains i then (e[i]?).join else none) = some o := Option.some.inj h
    by_cases hc : np.contains i = true
    · rw [if_pos hc] at h'
      refine ⟨hi, by simpa using hc, ?_⟩
      cases q : e[i]? with
      | none => rw [q] at h'; cases h'
      | some z =>
        rw [q] at h'
        exact congrArg some h'
    · rw [if_neg hc] at h'
      cases h'
  · rw [List.getElem?_eq_none (by rw [List.length_range]; omega)] at h
    cases h
def pinOf (np : List Nat) (vs : List V) : Nat → Option V := fun i => if np.contains i then vs[i]? else none
theorem R.args {np : List Nat} {H0 G0 : Hp} {fp : List Addr} {vs : List V} {σ : St} {e : Env} {τ : List (Option V)} {stk : Env} {G H : Hp} (r : R K ⟨H0, G0, fp, pinOf np vs⟩ σ e τ stk G H) : R K ⟨H0, G0, fp, noPin⟩ (vs.map some) (asOf np vs.length e) τ stk G H := by
  obtain ⟨f1, f2, c, s, n, m⟩ := r.ex
  obtain ⟨g, c1, s1⟩ := c.mask (vs := vs.map some) (as := asOf np vs.length e) (by unfold asOf; simp) fun i o q => by
    obtain ⟨h1, h2, h3⟩ := asOf_get q
    refine ⟨h3, ?_⟩
    have pi : pinOf np vs i = some vs[i] := by
      unfold pinOf
      rw [if_pos (by simpa using h2)]
      simp [h1]
    rw [r.pin i _ pi, List.getElem?_map]
    simp [h1]
  have sl : (g ++ f2).Sublist (f1 ++ f2) := List.Sublist.append s1 (.refl _)
  exact ⟨⟨r.wd.sub, r.wd.ext, r.wd.fr⟩, fun i v h => (by cases h), g, f2, c1, s, n.sublist sl, fun a h => m a (sl.subset h)⟩
theorem okN {P : Program} {w : World} {base : Heap} {x qual : Str} {st : Stmt} {f : Addr} {fd : FuncData} {N ps : List Str} {k : Nat} {sp : Sp} (F : Fun K x qual st f fd) (S : FnScope N ps (defScope st)) (len : ∀ vs H Q E, sp vs H Q E → vs.length = ps.length)
    (body : ∀ (cdv : Value) (A : Around) (outer : List PySem.Env) (s : Shared) (H : Hp) (vs : List V) (Q : VK) (E : XK), Room k (A.deeper (envOfC qual (defScope st) s.heap.objs.size f cdv)) → sp vs H Q E →
      ∃ t, PSs (cxOf (L2N.CX P w) P w K mg base N qual (defScope st) f cdv A outer s H E) (defBody st) t ∧
        t { nx := fun _ H' => Q .non H', rt := Q } (L2.start N vs) H) : FnOk P w K mg base (L2N.CX P w) (k + 1) f fd ps sp := by
  obtain ⟨_, _, _, _, _, _, v7, _, _, rfl, l, c⟩ := F.ex
  exact fn_of l c S len (body v7)
/-- a body's worth is the def's worth -/
theorem def_core {X : Cx} {N : List Str} {body : List Stmt} {n : Nat} {m : MS} {np : List Nat} {E : XK} {vs : List V} {H : Hp} {Q : VK} (hb : DSs X (fun c d _ H => E c d H) (asm np) body m) (h : FP X.K X.mg n (fnD np N.length m) vs H Q E) :
    ∃ t, PSs X body t ∧ t { nx := fun _ H' => Q .non H', rt := Q } (L2.start N vs) H := by
  obtain ⟨t, p, sn⟩ := hb.ex
  obtain ⟨hn, os, fp, G, sub, c, nd, q⟩ := h
  have hl : os.length = vs.length := by
    have := c.length
    simpa using this.symm
  refine ⟨t, p, sn ⟨H, G, fp, pinOf np vs⟩ _ (os.map some ++ List.replicate (N.length - os.length) none) G H _ ⟨fun i v h => ?_, trivial⟩ ?_ ?_⟩
  · unfold pinOf at h
    by_cases hc : np.contains i = true
    · simpa using hc
    · dsimp only at h
      rw [if_neg hc] at h
      cases h
  · refine ⟨⟨sub, Sub.refl G, fun a _ _ => ⟨rfl, rfl⟩⟩, fun i v h => ?_, fp, [], ?_, .nil, by simpa using nd, fun a h => .inl (by simpa using h)⟩
    · unfold pinOf at h
      dsimp only at h
      by_cases hc : np.contains i = true
      · rw [if_pos hc] at h
        unfold L2.start
        rw [List.getElem?_append_left (by rw [List.length_map]; exact (List.getElem?_eq_some_iff.mp h).1), List.getElem?_map, h]
        rfl
      · rw [if_neg hc] at h
        cases h
    · unfold L2.start
      have nn : Cells X.K G H (List.replicate (N.length - vs.length) (none : Option V)) (List.replicate (N.length - os.length) (none : Option O)) [] := Cells.nones (by simp [hl]) fun i o q => by
        rw [List.getElem?_replicate] at q
        split at q <;> cases q
      have := c.append nn
      rw [List.append_nil] at this
      exact this
  · unfold fnD at q
    cases em : m (os.map some ++ List.replicate (N.length - os.length) none) with
    | nx e =>
      simp only [em] at q
      rw [hl] at q
      exact fun σ' G' H' r => q .non G' H' (r.args.pushD .non)
    | rt o e =>
      simp only [em] at q
      rw [hl] at q
      exact fun σ' v G' H' r => q v G' H' r.args
    | exc xx e =>
      simp only [em] at q
      rw [hl] at q
      exact fun σ' cc d G' H' r xr => q cc d G' H' r.args xr
    | bk e =>
      simp only [em] at q
    | ct e =>
      simp only [em] at q
    | fail =>
      simp only [em] at q
/-- THE RULE for a def -/
theorem ok_def {P : Program} {w : World} {base : Heap} {x qual : Str} {st : Stmt} {f : Addr} {fd : FuncData} {N ps : List Str} {k : Nat} {m : MS} (np : List Nat) (F : Fun K x qual st f fd) (S : FnScope N ps (defScope st))
    (hbody : ∀ (cdv : Value) (A : Around) (outer : List PySem.Env) (s : Shared) (H : Hp) (E : XK), Room k (A.deeper (envOfC qual (defScope st) s.heap.objs.size f cdv)) →
      DSs (cxOf (L2N.CX P w) P w K mg base N qual (defScope st) f cdv A outer s H E) (fun c d _ H => E c d H) (asm np) (defBody st) m) : FnOk P w K mg base (L2N.CX P w) (k + 1) f fd ps (FP K mg ps.length (fnD np N.length m)) :=
  okN F S (fun vs H Q E h => h.1) fun cdv A outer s H vs Q E hr h => def_core (hbody cdv A outer s H E hr) h
/-! ### comprehensions -/
variable {np : Asm}
theorem de_comp {elt tg it : Expr} {ifs : List Expr} {scope : Scope} {own : List (Str × Nat)} {pos : Pos} {t : TG} {mi : Env → Rs (List D)} {g : MG} {c : Env → Rs Bool} {m : ME} (hc : X.calm = true) (hN : X.N.Nodup) (ok : BlkOk X.N X.env.scope scope own) (hv : ∀ i ∈ own.map (·.2), i ∉ np.np)
    (hi : DI X W np tg it mi) (hg : ∀ i : BlkIx, PG (blkAt X scope i) tg t) (gs : GSnd X.K np t g) (gw : GW t (own.map (·.2))) (ht : ∀ i : BlkIx, DTs (blkAt X scope i) W0 np ifs c) (he : ∀ i : BlkIx, DE (blkAt X scope i) W0 np elt m) (hs : ∀ x, foldedSetIterable it X.env x = pure x := by intro _; rfl) :
    DE X W np (.ListComp elt [⟨tg, it, ifs, 0⟩] scope pos) (mComp mi (own.map (·.2)) g c m) := by
  obtain ⟨wi, pi, si⟩ := hi.ex
  obtain ⟨tt, pt, sT⟩ := uni_ts ht
  obtain ⟨te, pe, sE⟩ := uni_e he
  exact ⟨_, pe_lc hc hN pi ok (fun s H C cl fp => hg (s, H, C, cl, fp)) (fun s H C cl fp => pt (s, H, C, cl, fp)) (fun s H C cl fp => pe (s, H, C, cl, fp)) hs, esnd_comp hv si gs gw sT sE⟩
theorem ds_comp {i : Nat} {y : Str} {py : Pos} {elt tg it : Expr} {ifs : List Expr} {scope : Scope} {own : List (Str × Nat)} {pos spos : Pos} {t : TG} {mi : Env → Rs (List D)} {g : MG} {c : Env → Rs Bool} {m : ME} (hc : X.calm = true) (hN : X.N.Nodup) (ok : BlkOk X.N X.env.scope scope own) (hv : ∀ i ∈ own.map (·.2), i ∉ np.np)
    (hi : DI X W np tg it mi) (hg : ∀ i : BlkIx, PG (blkAt X scope i) tg t) (gs : GSnd X.K np t g) (gw : GW t (own.map (·.2))) (ht : ∀ i : BlkIx, DTs (blkAt X scope i) W0 np ifs c) (he : ∀ i : BlkIx, DE (blkAt X scope i) W0 np elt m)
    (hsw : swapsWith (.ListComp elt [⟨tg, it, ifs, 0⟩] scope pos) (some (.Name y py)) spos.line X.env = pure true) (hin : i ∉ np.np := by decide) (hy : X.N[i]? = some y := by rfl) (hyl : X.env.scope.names.lookup y = some .local := by rfl) (hs : ∀ x, foldedSetIterable it X.env x = pure x := by intro _; rfl) :
    DS X W np (.Assign [.Name y py] (.ListComp elt [⟨tg, it, ifs, 0⟩] scope pos) spos) (mSet i (mComp mi (own.map (·.2)) g c m)) := by
  obtain ⟨wi, pi, si⟩ := hi.ex
  obtain ⟨tt, pt, sT⟩ := uni_ts ht
  obtain ⟨te, pe, sE⟩ := uni_e he
  exact ⟨_, ps_setLc hc hN hy hyl hsw pi ok (fun s H C cl fp => hg (s, H, C, cl, fp)) (fun s H C cl fp => pt (s, H, C, cl, fp)) (fun s H C cl fp => pe (s, H, C, cl, fp)) hs, ssnd_set hin (esnd_comp hv si gs gw sT sE)⟩
end
end Dn
end
section
set_option Elab.async false
set_option linter.all false
set_option maxRecDepth 100000
set_option maxHeartbeats 4000000
/-! Dn10: own exceptions: made, raised, caught. -/
namespace Dn
open PySem PySem.Spec L2
open PyProof.Rows hiding St
/-- __init__(self, f): self.f = f;  __init__(self, f, g): self.f = f; self.g = g -/
def spI (C : Addr) (ns : List Str) : Sp := fun vs H Q _ => vs.length = ns.length + 1 ∧ ∃ (a : Addr) (xs : List V), vs = .ref a :: xs ∧ H a = some (exo a C none) ∧
  ∀ (dx : Addr), H dx = none → dx ≠ a → Q .non (upd (upd H a (exo a C (some dx))) dx (exd dx (ns.zip xs).reverse))
section
variable {P : Program} {w : World} {K : PySem.W.Frag} {mg : Str → Option Value} {base : Heap}
theorem upd_comm {H : Hp} {a b : Addr} {o u : HO} (h : a ≠ b) : upd (upd H a o) b u = upd (upd H b u) a o := by
  funext c
  by_cases h1 : c = a
  · subst h1
    rw [upd_ne h, upd_same, upd_same]
  · by_cases h2 : c = b
    · subst h2
      rw [upd_same, upd_ne h1, upd_same]
    · rw [upd_ne h2, upd_ne h1, upd_ne h1, upd_ne h2]
theorem ok_init1 {C f : Addr} {fd : FuncData} {x y qual : Str} {st : Stmt} {p1 p2 p3 p4 : Pos} (T : OexC K C) (F : Fun K "__init__" qual st f fd) (S : FnScope [x, y] [x, y] (defScope st)) (eb : defBody st = [.Assign [.Attribute (.Name x p1) y p2] (.Name y p3) p4]) (hno : PySem.W.findIn K (.ref C) y = some none)
    (hx : ∀ (X : Cx), X.env.scope = defScope st → X.N = [x, y] → PE X (.Name x p1) (tVar 0)) (hy : ∀ (X : Cx), X.env.scope = defScope st → X.N = [x, y] → PE X (.Name y p3) (tVar 1))
    (hs : ∀ (X : Cx), swapsWith (.Name y p3) (some (.Attribute (.Name x p1) y p2)) p4.line X.env = pure false) : FnOk P w K mg base (L2N.CX P w) 1 f fd [x, y] (spI C [y]) := by
  refine okN F S (fun vs H Q E h => h.1) fun cdv A outer s H vs Q E hr h => ?_
  obtain ⟨hl, a, xs, rfl, ha, q⟩ := h
  match xs, hl with
  | [v], _ =>
    rw [eb]
    refine ⟨_, pss_one (ps_ost (hx _ rfl rfl) (hy _ rfl rfl) (hs _)), ?_⟩
    refine ⟨v, rfl, .ref a, rfl, a, C, rfl, T, hno, .inl ⟨ha, fun dx nx ne => ?_⟩⟩
    have := q dx nx ne
    rw [upd_comm ne.symm] at this
    exact this
theorem ok_init2 {C f : Addr} {fd : FuncData} {x y z qual : Str} {st : Stmt} {p1 p2 p3 p4 p5 p6 p7 p8 : Pos} (T : OexC K C) (F : Fun K "__init__" qual st f fd) (S : FnScope [x, y, z] [x, y, z] (defScope st)) (eb : defBody st = [.Assign [.Attribute (.Name x p1) y p2] (.Name y p3) p4, .Assign [.Attribute (.Name x p5) z p6] (.Name z p7) p8]) (hno : PySem.W.findIn K (.ref C) y = some none) (hno2 : PySem.W.findIn K (.ref C) z = some none)
    (hx : ∀ (X : Cx) (p : Pos), X.env.scope = defScope st → X.N = [x, y, z] → PE X (.Name x p) (tVar 0)) (hy : ∀ (X : Cx), X.env.scope = defScope st → X.N = [x, y, z] → PE X (.Name y p3) (tVar 1)) (hz : ∀ (X : Cx), X.env.scope = defScope st → X.N = [x, y, z] → PE X (.Name z p7) (tVar 2))
    (hs : ∀ (X : Cx), swapsWith (.Name y p3) (some (.Attribute (.Name x p1) y p2)) p4.line X.env = pure false) (hs2 : ∀ (X : Cx), swapsWith (.Name z p7) (some (.Attribute (.Name x p5) z p6)) p8.line X.env = pure false) : FnOk P w K mg base (L2N.CX P w) 1 f fd [x, y, z] (spI C [y, z]) := by
  refine okN F S (fun vs H Q E h => h.1) fun cdv A outer s H vs Q E hr h => ?_
  obtain ⟨hl, a, xs, rfl, ha, q⟩ := h
  match xs, hl with
  | [v, u], _ =>
    rw [eb]
    refine ⟨_, pss_cons (ps_ost (hx _ _ rfl rfl) (hy _ rfl rfl) (hs _)) (pss_one (ps_ost (hx _ _ rfl rfl) (hz _ rfl rfl) (hs2 _))), ?_⟩
    refine ⟨v, rfl, .ref a, rfl, a, C, rfl, T, hno, .inl ⟨ha, fun dx nx ne => ?_⟩⟩
    refine ⟨u, rfl, .ref a, rfl, a, C, rfl, T, hno2, .inr ⟨dx, [(y, v)], upd_same, ?_, ?_, ?_⟩⟩
    · rw [upd_ne ne, upd_same]
    · show 1 ≤ 900
      decide
    · show Q .non (upd (upd (upd H dx (exd dx [(y, v)])) a (exo a C (some dx))) dx (exd dx [(z, u), (y, v)]))
      rw [upd_comm ne, upd_upd]
      exact q dx nx ne
theorem passLN {X : Cx} : Passes (L2N.CX X.prog X.w) X (fun _ _ _ => False) := fun pins σ H s e s' I c => by
  obtain ⟨_, _, _, _, _, _, _, _, _, _, _, _, z⟩ := c
  exact z.elim
theorem takes0N {X : Cx} : L2N.Takes X (fun _ _ _ _ => False) := fun u s' c => by
  obtain ⟨_, _, _, _, _, _, _, _, _, _, _, _, _, _, _, _, z⟩ := c
  exact z.elim
/-- an own exception made where nothing is handled: its context is None -/
theorem pmk_oexN {X : Cx} {CX : CXT} {x : Str} {e : Expr} {es : List Expr} {ta : TA} {p pos : Pos} {C g : Addr} {k : Nat} {fd : FuncData} {ps : List Str} {sp : Sp} (T : OexC X.K C)
    (iC : PySem.W.findIn X.K (.ref C) "__init__" = some (some (.ref g))) (tI : PySem.W.typeIn X.K (.ref g) = some (.type "function")) (F1 : FnOk X.prog X.w X.K X.mg X.base CX k g fd ps sp) (room : Room (k + 1) X.A)
    (bi : Binds X.K fd ps []) (pass : Passes CX X (fun _ _ _ => False)) (gl : Gl X x) (hm : X.mg x = some (.ref C)) (ha : PA X (e :: es) ta)
    (ndb : (x == ("__debug__" : Str)) = false) (sh : starEach (e :: es) X.env = (false, eval e X.env) :: starEach es X.env) (pl : (backTo pos (starEach es X.env)).any (·.1) = false) :
    L2N.PMk X (.Call (.Name x p) (e :: es) [] pos) (tMkO C sp [] ta) := by
  intro pins s σ H Q I0 h0
  obtain ⟨_, _, _, _, bm, _, _, _, _, _, _, _, _, _, _, clsAt, cbm⟩ := T.cls
  refine wpAny_Call_Name_kw (ld_glob I0 gl hm (PySem.W.callWith_K (h₀ := X.base) I0.ok.mod.kin T.kC (thn (ha.run pos pins s σ H _ I0 h0) fun us s1 got => ?_) sh pl) ndb)
  obtain ⟨vs, H1, I1, rv1, len1, owed⟩ := got
  refine ⟨I1.kIn, ?_⟩
  show wpAny _ _ (call (.ref C) us) _ _ _
  obtain ⟨hp, gn, dr, tk, os⟩ := s1
  -- the two new objects
  have le1 : hp.objs.size ≤ hp.objs.size + 1 := Nat.le_succ _
  have free1 : H1 (hp.objs.size + 1) = none := I1.hok.fresh le1
  have due := owed (hp.objs.size + 1) free1
  rw [List.append_nil] at due
  generalize eh : (hp.push (PySem.W.kdv_tup us)).push (PySem.HandSPX.excO C hp.objs.size) = hq
  have old : ∀ b o, hp.get? b = some o → hq.get? b = some o := fun b o z => by
    rw [← eh]
    exact Heap.get?_push_of_some _ (Heap.get?_push_of_some _ z)
  have new : hq.get? (hp.objs.size + 1) = some (PySem.HandSPX.excO C hp.objs.size) := by
    rw [← eh]
    heap_get
  have I2 : Inv X pins σ (upd H1 (hp.objs.size + 1) (exo (hp.objs.size + 1) C none)) ⟨hq, gn, dr, tk, os⟩ := I1.laid (t' := tk) (a := hp.objs.size + 1) (o := exo (hp.objs.size + 1) C none) old le1 (exo_ok new)
  have rv2 : Vals (V.ref (hp.objs.size + 1) :: vs) (Value.ref (hp.objs.size + 1) :: us) := .cons rfl rv1
  have len2 : (Value.ref (hp.objs.size + 1) :: us ++ []).length = ps.length := by
    rw [List.append_nil, ← rv2.length]
    exact F1.len _ _ _ _ due
  have few : us.length ≤ sizeLine := by
    have := Paired.length rv1
    rw [sizeLine_eq]
    omega
  have bound := bi _ (Value.ref (hp.objs.size + 1) :: us) I2.kIn len2
  rw [List.append_nil] at bound
  have run := F1.run _ X.stack _ _ ⟨Value.ref (hp.objs.size + 1) :: us, []⟩ (Value.ref (hp.objs.size + 1) :: us) _ _ (fun _ _ _ => False) (room.make C us []) (I2.env0.make C us []) bound rv2 due
  rw [← eh] at run
  refine wpAny_call (PySem.HandSPX.call_own F.excBase_ValueError (fun Y => PySem.HandSPX.refsVE_contains Y bm cbm) (I1.kIn _ _ clsAt) (PySem.W.looks_findIn I1.kIn iC) (fun self => PySem.W.bind_fn I1.kIn self tI) few (codeAny_mono run fun r s' out => ?_))
  cases r with
  | error er =>
    refine pass pins σ _ _ er s' I2 ?_
    rw [← eh]
    exact out
  | ok fl =>
    cases fl with
    | ret u =>
      rw [eh] at out
      obtain ⟨v, H2, o1, o2, o3, o4, rv, ev, d, fs, ea, ed, hd, qq⟩ := out
      subst ev
      obtain ⟨h2, g2, d2, t2, os'⟩ := s'
      obtain ⟨t0, G, J, kG, ge, oe, na⟩ := mk_end0 (d2 := d2) (t2 := t2) I1 le1 old o3 o4 o1 o2 ea ed hd
      refine ⟨rv, hp.objs.size + 1, _, _, ⟨G, g2, d2, t2, os'⟩, _, .ref C, some d, rfl, J, kG, ge, oe, ?_, rfl, rfl, na, rfl, o2, raises_own T.exC T.tyC, qq⟩
      refine ⟨rfl, rfl, fun vs q => ?_⟩
      cases q
      rfl
    | next => exact out.elim
    | brk => exact out.elim
    | cont => exact out.elim
/-! ### raise -/
/-- raise cls(..) with the fields ns -/
def mRaise (cls : Str) (ns : List Str) (ks : List AK) : MS := fun env => match evalA ks env with
  | .ok cs e => match allS cs with
    | some os => .exc ⟨cls, (ns.zip (frzs os)).reverse⟩ e
    | none => .fail
  | .exc x e => .exc x e
  | .fail => .fail
end
section
variable {X : Cx} {W : WX} {np : Asm} {K : PySem.W.Frag} {mg : Str → Option Value}
theorem Reps.snoc {G : Hp} : ∀ {vs : List V} {xs : List D} {v : V} {x : D}, Reps K G vs xs → Rep K G v x → Reps K G (vs ++ [v]) (xs ++ [x])
  | _, _, _, _, .nil, h => .cons h .nil
  | _, _, _, _, .cons q r, h => .cons q (r.snoc h)
theorem Reps.rev {G : Hp} : ∀ {vs : List V} {xs : List D}, Reps K G vs xs → Reps K G vs.reverse xs.reverse
  | _, _, .nil => .nil
  | _, _, .cons q r => by
    rw [List.reverse_cons, List.reverse_cons]
    exact r.rev.snoc q
theorem zip_fst {α β γ : Type} : ∀ {ns : List α} {vs : List β} {xs : List γ}, vs.length = xs.length → (ns.zip vs).map Prod.fst = (ns.zip xs).map Prod.fst
  | [], _, _, _ => by simp
  | _ :: _, [], [], _ => rfl
  | _ :: _, [], _ :: _, h => by cases h
  | _ :: _, _ :: _, [], h => by cases h
  | n :: ns, v :: vs, x :: xs, h => by
    rw [List.zip_cons_cons, List.zip_cons_cons, List.map_cons, List.map_cons, zip_fst (ns := ns) (Nat.succ.inj h)]
theorem zip_snd {G : Hp} : ∀ {ns : List Str} {vs : List V} {xs : List D}, Reps K G vs xs → Reps K G ((ns.zip vs).map Prod.snd) ((ns.zip xs).map Prod.snd)
  | [], _, _, _ => .nil
  | _ :: _, _, _, .nil => .nil
  | _ :: _, _, _, .cons q r => .cons q (zip_snd r)
theorem del_upd {H : Hp} {a : Addr} {o : HO} (h : H a = none) : del (upd H a o) a = H := by
  funext b
  by_cases e : b = a
  · subst e
    rw [del_same, h]
  · rw [del_ne e, upd_ne e]
theorem del_comm {H : Hp} {a b : Addr} {o : HO} (h : a ≠ b) : del (upd H b o) a = upd (del H a) b o := by
  funext c
  by_cases h1 : c = a
  · subst h1
    rw [del_same, upd_ne h, del_same]
  · by_cases h2 : c = b
    · subst h2
      rw [del_ne h1, upd_same, upd_same]
    · rw [del_ne h1, upd_ne h2, upd_ne h2, del_ne h1]
theorem ds_raise {C fI : Addr} {k : Nat} {fd : FuncData} {ps : List Str} {ns : List Str} {x : Str} {e : Expr} {es : List Expr} {ks : List AK} {p pos pos' : Pos} (hc : X.calm = true) (tk : L2N.Takes X W) (T : OexC X.K C) (iC : PySem.W.findIn X.K (.ref C) "__init__" = some (some (.ref fI))) (tI : PySem.W.typeIn X.K (.ref fI) = some (.type "function"))
    (F1 : FnOk X.prog X.w X.K X.mg X.base (L2N.CX X.prog X.w) k fI fd ps (spI C ns)) (hr : Room (k + 1) X.A) (hb : Binds X.K fd ps []) (hm : X.mg x = some (.ref C)) (ha : DA X W np (e :: es) ks) (hn : ks.length = ns.length := by rfl) (hn3 : ns.length ≤ 3 := by decide) (hg : Gl X x := by rfl)
    (hdb : (x == ("__debug__" : Str)) = false := by decide) (he : starEach (e :: es) X.env = (false, eval e X.env) :: starEach es X.env := by rfl) (hpl : (backTo pos (starEach es X.env)).any (·.1) = false := by rfl) : DS X W np (.Raise (some (.Call (.Name x p) (e :: es) [] pos)) none pos') (mRaise x ns ks) := by
  obtain ⟨t, q, s⟩ := ha.ex
  refine ⟨_, L2N.ps_raise hc tk (pmk_oexN T iC tI F1 hr hb passLN hg hm q hdb (by exact he) (by exact hpl)), fun Γ σ env G H D hp r h => s Γ σ env [] [] G H _ hp r ?_⟩
  unfold mRaise at h
  cases e1 : evalA ks env with
  | ok cs e' =>
    simp only [e1] at h
    intro vs G1 H1 hl r1 n1
    cases e2 : allS cs with
    | none =>
      simp only [e2] at h
      exact False.elim h
    | some os =>
      simp only [e2] at h
      have ec := allS_of e2
      subst ec
      have hl' : vs.length = os.length := by
        rw [← hl, List.length_map]
      have hlv : vs.length = ns.length := (areNm_len n1).trans hn
      obtain ⟨G2, r2, q2⟩ := r1.frzN hl'
      refine ⟨by omega, fun a na => ?_⟩
      refine ⟨by rw [List.append_nil, List.length_cons, hlv], a, vs, by rw [List.append_nil], upd_same, fun dx nx ne => ⟨rfl, dx, (ns.zip vs).reverse, ?_, upd_same, ?_, ?_⟩⟩
      · rw [upd_ne ne.symm, upd_same]
      · have := nx
        rw [upd_ne ne] at this
        exact this
      · have nx1 : H1 dx = none := by
          have := nx
          rw [upd_ne ne] at this
          exact this
        have eH : upd (del (upd (upd (upd H1 a (exo a C none)) a (exo a C (some dx))) dx (exd dx (ns.zip vs).reverse)) a) dx (.xd (ns.zip vs).reverse) = upd H1 dx (.xd (ns.zip vs).reverse) := by
          rw [upd_upd, del_comm ne.symm, del_upd na, upd_upd]
        rw [eH]
        obtain ⟨r3, sg⟩ := r2.newG (o := .xd (ns.zip vs).reverse) nx1
        refine h σ (.ref C) (some dx) _ _ r3 ⟨C, dx, (ns.zip vs).reverse, rfl, hm, rfl, upd_same, ?_, ?_⟩
        · rw [List.map_reverse, List.map_reverse, zip_fst q2.length]
        · rw [List.map_reverse, List.map_reverse]
          exact (zip_snd (q2.mono sg)).rev
  | exc xx e' =>
    simp only [e1] at h
    exact fun c d G' H' r q => h σ c d G' H' r q
  | fail =>
    simp only [e1] at h
    exact h
/-! ### try .. except X as n -/
def finE (i : Nat) : SR → SR
  | .nx e => .nx (e.set i none)
  | .rt o e => .rt o (e.set i none)
  | .bk e => .bk (e.set i none)
  | .ct e => .ct (e.set i none)
  | .exc x e => .exc x e
  | .fail => .fail
def mTry (catches : Str → Option Bool) (i : Nat) (b : MS) (h : Exc → MS) : MS := fun env => match b env with
  | .exc x e => match catches x.cls with
    | some true => if i < e.length then match h x (e.set i none) with
      | .exc _ _ => .fail
      | r => finE i r
      else .fail
    | some false => .exc x e
    | none => .fail
  | r => r
/-- while an exception is handled: slot i holds it, its fields are told by x -/
def hFact (K : PySem.W.Frag) (mg : Str → Option Value) (i : Nat) (a : Addr) (x : Exc) (c : Value) (d : Option Addr) : Ctx → Prop := fun Γ => Γ.pin i = some (.ref a) ∧ ∀ H, XRep K mg Γ.G0 H x c d
def hAsm (K : PySem.W.Frag) (mg : Str → Option Value) (np : List Nat) (i : Nat) (a : Addr) (x : Exc) (c : Value) (d : Option Addr) : Asm := ⟨i :: np, hFact K mg i a x c d, fun Γ H G P s ⟨h1, h2⟩ => ⟨h1, fun H' => by
  obtain ⟨C, dd, fs, e1, e2, e3, e4, e5, e6⟩ := h2 H'
  exact ⟨C, dd, fs, e1, e2, e3, s _ _ e4, e5, e6.mono s⟩⟩⟩
theorem R.hold {H0 G0 : Hp} {P : List Addr} {pin : Nat → Option V} {σ : St} {e : Env} {τ : List (Option V)} {stk : Env} {G H : Hp} {i : Nat} {a : Addr} (r : R K ⟨H0, G0, P, pin⟩ σ e τ stk G H) (pn0 : pin i = none) (hl : i < e.length) : R K ⟨H0, G0, P, fun j => if j = i then some (.ref a) else pin j⟩ (σ.set i (some (.ref a))) (e.set i none) τ stk G H := by
  have len := r.len
  obtain ⟨f1, f2, c, s, n, m⟩ := r.ex
  obtain ⟨g, c1, s1⟩ := c.clear (i := i) (some (.ref a))
  have sl : (g ++ f2).Sublist (f1 ++ f2) := List.Sublist.append s1 (.refl _)
  refine ⟨⟨r.wd.sub, r.wd.ext, r.wd.fr⟩, fun j v h => ?_, g, f2, c1, s, n.sublist sl, fun a h => m a (sl.subset h)⟩
  dsimp only at h
  by_cases ej : j = i
  · subst ej
    rw [if_pos rfl] at h
    cases h
    rw [List.getElem?_set_self (by omega)]
  · rw [if_neg ej] at h
    rw [List.getElem?_set_ne (fun z => ej z.symm)]
    exact r.pin j v h
theorem R.unhold {H0 G0 : Hp} {P : List Addr} {pin : Nat → Option V} {σ : St} {e : Env} {τ : List (Option V)} {stk : Env} {G H : Hp} {i : Nat} {a : Addr} (r : R K ⟨H0, G0, P, fun j => if j = i then some (.ref a) else pin j⟩ σ e τ stk G H) (pn0 : pin i = none) : R K ⟨H0, G0, P, pin⟩ (σ.set i none) (e.set i none) τ stk G H := by
  obtain ⟨f1, f2, c, s, n, m⟩ := r.ex
  obtain ⟨g, c1, s1⟩ := c.clear (i := i) none
  have sl : (g ++ f2).Sublist (f1 ++ f2) := List.Sublist.append s1 (.refl _)
  refine ⟨⟨r.wd.sub, r.wd.ext, r.wd.fr⟩, fun j v h => ?_, g, f2, c1, s, n.sublist sl, fun a h => m a (sl.subset h)⟩
  have ej : j ≠ i := fun z => by
    subst z
    have h' : pin j = some v := h
    rw [pn0] at h'
    cases h'
  rw [List.getElem?_set_ne (fun z => ej z.symm)]
  refine r.pin j v ?_
  show (if j = i then some (V.ref a) else pin j) = some v
  rw [if_neg ej]
  exact h
theorem ds_try {x n : Str} {c : Value} {i : Nat} {body suite : List Stmt} {b₀ : Stmt} {npos pos pos' : Pos} {mb : MS} {mh : Exc → MS} {catches : Str → Option Bool} {nl : List Nat} (hs : X.stack = X.env :: X.outer) (hf : X.env.frame = some X.env.locals) (hN : X.N.Nodup) (hi : X.N[i]? = some n) (hln : X.env.kindOf n = some .local) (hx : Names X x c) (tk : L2N.Takes X W) (hin : i ∉ nl)
    (hcat : ∀ (cls : Str) (C : Addr) (b : Bool), X.mg cls = some (.ref C) → catches cls = some b → PySem.W.exmOne X.K (.ref C) c = some b)
    (hb : ∀ (W : WX) (pn : List (Addr × Obj)) (xe : Value → Shared → Prop), L2N.Takes (X.tr pn xe) W → PassesOwn (model X.prog X.w) X.A X.env xe → DSs (X.tr pn xe) W (asm nl) body mb)
    (hsu : ∀ (xx : Exc) (a : Addr) (oe : Obj) (cls : Value) (d : Option Addr) (pn : List (Addr × Obj)), L2N.Zn cls d oe → (∃ vs, oe.data = .fields vs) → DSs (X.suite a ((a, oe) :: pn)) W0 (hAsm X.K X.mg nl i a xx cls d) (b₀ :: suite) (mh xx)) :
    DS X W (asm nl) (.Try body [.ExceptHandler (some (.Name x npos)) (some n) (b₀ :: suite) pos'] [] [] pos) (mTry catches i mb mh) := by
  refine ⟨_, L2N.ps_try_as (c := c) (i := i) (tb := fun W => fun D σ H => ∀ (pn : List (Addr × Obj)) (xe : Value → Shared → Prop), L2N.Takes (X.tr pn xe) W → PassesOwn (model X.prog X.w) X.A X.env xe → ∃ t, PSs (X.tr pn xe) body t ∧ t D σ H)
    (ts := fun a cls d => fun D σ H => ∀ (oe : Obj) (pn : List (Addr × Obj)), L2N.Zn cls d oe → (∃ vs, oe.data = .fields vs) → ∃ t, PSs (X.suite a ((a, oe) :: pn)) (b₀ :: suite) t ∧ t D σ H) hs hf hN hi hln hx tk (fun W pn xe tk po => ⟨fun pins s σ H D I h => ?_⟩) (fun a oe cls d pn hz hd => ⟨fun pins s σ H D I h => ?_⟩), fun Γ σ env G H D hp r h => ?_⟩
  · obtain ⟨t, p, q⟩ := h pn xe tk po
    exact p.run pins s σ H D I q
  · obtain ⟨t, p, q⟩ := h oe pn hz hd
    exact p.run pins s σ H D I q
  · intro pn xe tk' po
    obtain ⟨t, p, s⟩ := (hb _ pn xe tk' po).ex
    refine ⟨t, p, s Γ σ env G H D hp r ?_⟩
    unfold mTry at h
    cases eb : mb env with
    | exc xx e =>
      simp only [eb] at h
      intro σ' cc d G' H' r' xr
      obtain ⟨C, dd, fs, e1, e2, e3, e4, e5, e6⟩ := id xr
      subst e1
      cases ec : catches xx.cls with
      | none =>
        simp only [ec] at h
        exact False.elim h
      | some b =>
        refine ⟨b, hcat _ _ _ e2 ec, fun hbt a na => ?_, fun hbf => ?_⟩
        · subst hbt
          simp only [ec] at h
          intro oe pn hz hd
          obtain ⟨t2, p2, s2⟩ := (hsu xx a oe (.ref C) d pn hz hd).ex
          refine ⟨t2, p2, ?_⟩
          have pn0 : Γ.pin i = none := by
            cases q : Γ.pin i with
            | none => rfl
            | some v => exact absurd (hp.1 i v q) hin
          by_cases hlen : i < e.length
          · rw [if_pos hlen] at h
            obtain ⟨Pp, r1, kb⟩ := r'.rebase
            have r2 := R.hold (a := a) r1 pn0 hlen
            refine s2 _ _ _ _ _ _ ⟨fun j v q => ?_, ?_, fun H => ?_⟩ r2 ?_
            · by_cases e : j = i
              · subst e
                exact List.mem_cons_self
              · dsimp only at q
                rw [if_neg e] at q
                exact List.mem_cons_of_mem _ (hp.1 j v q)
            · exact if_pos rfl
            · exact ⟨C, dd, fs, rfl, e2, e3, e4, e5, e6⟩
            · cases eh : mh xx (e.set i none) with
              | nx e3 =>
                simp only [eh] at h
                exact fun σ2 G2 H2 r => h _ G2 H2 (kb _ _ _ _ _ _ (R.unhold r pn0))
              | rt o e3 =>
                simp only [eh] at h
                exact fun σ2 v G2 H2 r => h _ v G2 H2 (kb _ _ _ _ _ _ (R.unhold r pn0))
              | bk e3 =>
                simp only [eh] at h
                exact fun σ2 G2 H2 r => h _ G2 H2 (kb _ _ _ _ _ _ (R.unhold r pn0))
              | ct e3 =>
                simp only [eh] at h
                exact fun σ2 G2 H2 r => h _ G2 H2 (kb _ _ _ _ _ _ (R.unhold r pn0))
              | exc x3 e3 =>
                simp only [eh] at h
                exact False.elim h
              | fail =>
                simp only [eh] at h
                exact False.elim h
          · rw [if_neg hlen] at h
            exact False.elim h
        · subst hbf
          simp only [ec] at h
          exact h σ' _ d G' H' r' xr
    | nx e =>
      simp only [eb] at h
      exact h
    | rt o e =>
      simp only [eb] at h
      exact h
    | bk e =>
      simp only [eb] at h
      exact h
    | ct e =>
      simp only [eb] at h
      exact h
    | fail =>
      simp only [eb] at h
      exact False.elim h
end
end Dn
end
section
set_option Elab.async false
set_option linter.all false
set_option maxRecDepth 100000
set_option maxHeartbeats 4000000
/-! Dn11: what a handler reads off the exception. -/
namespace Dn
open PySem PySem.Spec L2
open PyProof.Rows hiding St
/-- e.n, e the exception that is handled -/
def mXf (known : Str → Bool) (n : Str) (x : Exc) : ME := fun env => if known x.cls then match x.fs.lookup n with
    | some d => .ok (.d d) env
    | none => .fail
  else .fail
section
variable {X : Cx} {W : WX} {K : PySem.W.Frag} {mg : Str → Option Value}
theorem lookup_rep {G : Hp} {n : Str} : ∀ {fs : List (Str × V)} {gs : List (Str × D)} {x : D}, fs.map Prod.fst = gs.map Prod.fst → Reps K G (fs.map Prod.snd) (gs.map Prod.snd) → gs.lookup n = some x → ∃ v, fs.lookup n = some v ∧ Rep K G v x
  | _, [], _, _, _, h => by cases h
  | [], _ :: _, _, h, _, _ => by cases h
  | (a, v) :: fs, (b, y) :: gs, x, h, r, e => by
    have h1 : a = b := (List.cons.inj h).1
    have h2 := (List.cons.inj h).2
    subst h1
    cases r with
    | cons q r =>
      rw [List.lookup_cons] at e ⊢
      cases c : n == a with
      | true =>
        rw [c] at e
        cases e
        exact ⟨v, rfl, q⟩
      | false =>
        rw [c] at e
        exact lookup_rep h2 r e
theorem de_xf {nl : List Nat} {i : Nat} {a : Addr} {oe : Obj} {pn : List (Addr × Obj)} {xx : Exc} {cls : Value} {d : Option Addr} {nm n : Str} {q pos : Pos} {known : Str → Bool} (hz : L2N.Zn cls d oe) (hf : ∃ vs, oe.data = .fields vs)
    (hk : ∀ (c : Str) (C : Addr), X.mg c = some (.ref C) → known c = true → XfC X.K C ∧ PySem.W.findIn X.K (.ref C) n = some none)
    (hN : X.N[i]? = some nm := by rfl) (hv : Vis X.env.scope nm := by first | exact Or.inl rfl | exact Or.inr (Or.inl rfl) | exact Or.inr (Or.inr rfl)) (hd : (nm == ("__debug__" : Str)) = false := by decide) (hcd : (nm == ("__classdict__" : Str)) = false := by decide)
    (hb : attributeBase (.Name nm q) n (X.suite a ((a, oe) :: pn)).env (eval (.Name nm q) (X.suite a ((a, oe) :: pn)).env) = eval (.Name nm q) (X.suite a ((a, oe) :: pn)).env := by rfl) :
    DE (X.suite a ((a, oe) :: pn)) W (hAsm X.K X.mg nl i a xx cls d) (.Attribute (.Name nm q) n pos) (mXf known n xx) := by
  by_cases h : ∃ C, cls = .ref C ∧ XfC X.K C ∧ PySem.W.findIn X.K (.ref C) n = some none
  · obtain ⟨C, ec, T, hno⟩ := h
    refine ⟨_, pe_xf (X := X) T hno hz.zc hf (pe_var (i := i) hN hv hd hcd) hb, fun Γ σ env τ stk G H Q hp r h => ?_⟩
    obtain ⟨_, hpin, hx⟩ := hp
    unfold mXf at h
    by_cases hkn : known xx.cls = true
    · rw [if_pos hkn] at h
      cases hl : xx.fs.lookup n with
      | none => simp only [hl] at h; exact False.elim h
      | some y =>
        simp only [hl] at h
        obtain ⟨C', dd, fs, e1, e2, e3, e4, e5, e6⟩ := hx H
        obtain ⟨v, lv, rv⟩ := lookup_rep e5 e6 hl
        exact ⟨.ref a, r.pin i _ hpin, rfl, ec, dd, fs, v, e3, r.wd.sub _ _ (r.wd.ext _ _ e4), lv, h v G H (r.pushD (rv.mono r.wd.ext))⟩
    · rw [if_neg hkn] at h
      exact False.elim h
  · refine ⟨fun _ _ _ => False, ⟨fun pins s σ H Q I h => h.elim⟩, fun Γ σ env τ stk G H Q hp r hq => ?_⟩
    obtain ⟨_, hpin, hx⟩ := hp
    unfold mXf at hq
    by_cases hkn : known xx.cls = true
    · obtain ⟨C', dd, fs, e1, e2, _⟩ := hx H
      exact h ⟨C', e1, hk _ _ e2 hkn⟩
    · rw [if_neg hkn] at hq
      exact hq
/-- isinstance(e, X) -/
def mXi (ans : Str → Option Bool) (x : Exc) : ME := fun env => match ans x.cls with
  | some b => .ok (.d (.bl b)) env
  | none => .fail
/-- what isinstance asks of an own exception class -/
structure XiC (K : PySem.W.Frag) (D : Addr) : Prop where
  hcl : (PySem.W.clsIn K D).isSome = true
  hg : PySem.W.findIn K (.ref D) "__getattribute__" = some (some (.builtin "BaseException.__getattribute__"))
  hk : PySem.W.findIn K (.ref D) "__getattr__" = some none
  hs : PySem.W.subIn K (.ref D) (.type "BaseException") = some true
  ha : PySem.W.findIn K (.ref D) "__class__" = some (some (.builtin "object.__class__"))
  hn : PySem.W.specialIn K (.builtin "object.__class__") "__get__" = some (some (.builtin "getset_descriptor.__get__"))
  ht : PySem.W.takesIn K (.builtin "object.__class__") = some true
  hm : PySem.W.mroIn K D (.type "object") = some true
def rXi (K : PySem.W.Frag) (a : Addr) (cls : Value) (d : Option Addr) : List V → Hp → VK → Prop := fun xs H Q => ∃ (C : Addr) (c : V) (cv : Value) (b : Bool) (dd : Addr) (fs : List (Str × V)), xs = [.ref a, c] ∧ (∀ u, RelV c u → u = cv) ∧ cls = .ref C ∧ XiC K C ∧ d = some dd ∧ H dd = some (.xd fs) ∧ PySem.W.kitOne K (.ref C) cv = some b ∧ Q (.bl b) H
theorem call_xi {a : Addr} {oe : Obj} {pn : List (Addr × Obj)} {cls : Value} {d : Option Addr} (hz : L2N.Zn cls d oe) (hf : ∃ vs, oe.data = .fields vs) : CallR (X.suite a ((a, oe) :: pn)) (.builtin "isinstance") (rXi X.K a cls d) := by
  intro pins s σ H xs us Q I r h
  obtain ⟨C, c, cv, b, dd, fs, ex, hcv, ec, T, ed, hd, hk, q⟩ := h
  subst ex ec ed
  cases r with
  | cons ra rr =>
    cases rr with
    | cons rc rr =>
      cases rr
      cases ra
      obtain rfl := hcv _ rc
      have hpin := I.pin (a, oe) (List.mem_append.mpr (.inl List.mem_cons_self))
      obtain ⟨vs, hv⟩ := hf
      obtain ⟨mA, ⟨o, es, ep, ho, _⟩, _⟩ := (show ObjOk _ _ H s.heap dd (.xd fs) from I.hok dd _ hd)
      have J : PySem.W.InstAt s.heap a oe C (some o) := ⟨hpin.1, hz.1, by unfold PySem.W.notCls; rw [hv] <;> rfl, by rw [hz.2.1]; exact ho⟩
      exact PySem.W.kia_one (PySem.W.kitx_exc T.hcl T.hg T.hk T.hs T.ha T.hn T.ht T.hm) I.kIn J hk (fun z => nomatch z) fun tk => ⟨.bl b, H, I.kept (t' := tk) fun _ _ z => z, rfl, q⟩
theorem de_xi {nl : List Nat} {i : Nat} {a : Addr} {oe : Obj} {pn : List (Addr × Obj)} {xx : Exc} {cls : Value} {d : Option Addr} {nm : Str} {e2 : Expr} {c : V} {cv : Value} {p q pos : Pos} {ans : Str → Option Bool} (hz : L2N.Zn cls d oe) (hf : ∃ vs, oe.data = .fields vs) (hi : X.mg "isinstance" = none)
    (hk : ∀ (c : Str) (C : Addr) (b : Bool), X.mg c = some (.ref C) → ans c = some b → XiC X.K C ∧ PySem.W.kitOne X.K (.ref C) cv = some b) (hc : PE (X.suite a ((a, oe) :: pn)) e2 (tC c)) (hcv : ∀ u, RelV c u → u = cv)
    (hN : X.N[i]? = some nm := by rfl) (hv : Vis X.env.scope nm := by first | exact Or.inl rfl | exact Or.inr (Or.inl rfl) | exact Or.inr (Or.inr rfl)) (hd : (nm == ("__debug__" : Str)) = false := by decide) (hcd : (nm == ("__classdict__" : Str)) = false := by decide) (hg : Gl X "isinstance" := by rfl)
    (he : starEach [.Name nm q, e2] X.env = (false, eval (.Name nm q) X.env) :: starEach [e2] X.env := by rfl) (he2 : starEach [e2] X.env = (false, eval e2 X.env) :: starEach [] X.env := by rfl) (hpl : (backTo pos (starEach [e2] X.env)).any (·.1) = false := by rfl) :
    DE (X.suite a ((a, oe) :: pn)) W (hAsm X.K X.mg nl i a xx cls d) (.Call (.Name "isinstance" p) [.Name nm q, e2] [] pos) (mXi ans xx) := by
  refine ⟨_, pe_callB (call_xi hz hf) hg hi (by decide +kernel) (pa_cons (pe_var (i := i) hN hv hd hcd) (pa_cons hc pa_nil (by exact he2)) (by exact he)) (by decide) (by decide) (by exact he) (by exact hpl), fun Γ σ env τ stk G H Q hp r hq => ?_⟩
  obtain ⟨_, hpin, hx⟩ := hp
  obtain ⟨C', dd, fs, e1, e2', e3, e4, e5, e6⟩ := hx H
  unfold mXi at hq
  cases ea : ans xx.cls with
  | none => simp only [ea] at hq; exact False.elim hq
  | some b =>
    simp only [ea] at hq
    obtain ⟨T, k1⟩ := hk _ _ _ e2' ea
    exact ⟨.ref a, r.pin i _ hpin, C', c, cv, b, dd, fs, rfl, hcv, e1, T, e3, r.wd.sub _ _ (r.wd.ext _ _ e4), k1, hq _ G H (r.pushD (.bl b))⟩
end
end Dn
end
section
set_option Elab.async false
set_option linter.all false
set_option maxRecDepth 100000
set_option maxHeartbeats 4000000
/-! Dn12: methods that change a list of its own, stores, slices. -/
namespace Dn
open PySem PySem.Spec L2
open PyProof.Rows hiding St
section
variable {X : Cx} {W : WX} {np : Asm} {K : PySem.W.Frag} {mg : Str → Option Value}
/-- pairs of values and things, in any order and some of them left out -/
theorem OReps.pairs {G H : Hp} : ∀ {L L' : List (V × O)} {f : List Addr}, L.Perm L' → OReps K G H (L.map Prod.fst) (L.map Prod.snd) f → ∃ f', OReps K G H (L'.map Prod.fst) (L'.map Prod.snd) f' ∧ f'.Perm f := by
  intro L L' f p
  induction p generalizing f with
  | nil => exact fun h => ⟨f, h, .refl _⟩
  | cons x p ih =>
    intro h
    cases h with
    | cons h1 h2 =>
      obtain ⟨f', h3, h4⟩ := ih h2
      exact ⟨_, .cons h1 h3, h4.append_left _⟩
  | swap x y l =>
    intro h
    cases h with
    | @cons _ _ fa _ _ fr h1 h2 =>
      cases h2 with
      | @cons _ _ fb _ _ fc h2 h3 =>
        refine ⟨fb ++ (fa ++ fc), .cons h2 (.cons h1 h3), ?_⟩
        rw [← List.append_assoc, ← List.append_assoc]
        exact List.Perm.append_right _ List.perm_append_comm
  | trans p q ih1 ih2 =>
    intro h
    obtain ⟨f1, h1, p1⟩ := ih1 h
    obtain ⟨f2, h2, p2⟩ := ih2 h1
    exact ⟨f2, h2, p2.trans p1⟩
theorem OReps.subl {G H : Hp} : ∀ {L L' : List (V × O)} {f : List Addr}, L'.Sublist L → OReps K G H (L.map Prod.fst) (L.map Prod.snd) f → ∃ f', OReps K G H (L'.map Prod.fst) (L'.map Prod.snd) f' ∧ f'.Sublist f := by
  intro L L' f p
  induction p generalizing f with
  | slnil => exact fun h => ⟨f, h, .refl _⟩
  | cons x p ih =>
    intro h
    cases h with
    | cons h1 h2 =>
      obtain ⟨f', h3, h4⟩ := ih h2
      exact ⟨f', h3, h4.trans (List.sublist_append_right _ _)⟩
  | cons_cons x p ih =>
    intro h
    cases h with
    | cons h1 h2 =>
      obtain ⟨f', h3, h4⟩ := ih h2
      exact ⟨_, .cons h1 h3, List.Sublist.append (.refl _) h4⟩
theorem zip_fst' {α β : Type} : ∀ {a : List α} {b : List β}, a.length = b.length → (a.zip b).map Prod.fst = a
  | [], [], _ => rfl
  | [], _ :: _, h => by cases h
  | _ :: _, [], h => by cases h
  | x :: a, y :: b, h => by rw [List.zip_cons_cons, List.map_cons, zip_fst' (Nat.succ.inj h)]
theorem zip_snd' {α β : Type} : ∀ {a : List α} {b : List β}, a.length = b.length → (a.zip b).map Prod.snd = b
  | [], [], _ => rfl
  | [], _ :: _, h => by cases h
  | _ :: _, [], h => by cases h
  | x :: a, y :: b, h => by rw [List.zip_cons_cons, List.map_cons, zip_snd' (Nat.succ.inj h)]
theorem OReps.append {G H : Hp} : ∀ {vs ws : List V} {os us : List O} {f g : List Addr}, OReps K G H vs os f → OReps K G H ws us g → OReps K G H (vs ++ ws) (os ++ us) (f ++ g)
  | _, _, _, _, _, _, .nil, q => q
  | _, _, _, _, _, _, .cons h r, q => by
    rw [List.append_assoc]
    exact .cons h (r.append q)
theorem OReps.split {G H : Hp} : ∀ {vs ws : List V} {os us : List O} {f : List Addr}, vs.length = os.length → OReps K G H (vs ++ ws) (os ++ us) f → ∃ fa fb, f = fa ++ fb ∧ OReps K G H vs os fa ∧ OReps K G H ws us fb
  | [], _, [], _, f, _, q => ⟨[], f, rfl, .nil, q⟩
  | [], _, _ :: _, _, _, h, _ => by cases h
  | _ :: _, _, [], _, _, h, _ => by cases h
  | _ :: _, _, _ :: _, _, _, h, .cons q r => by
    obtain ⟨fa, fb, e, h1, h2⟩ := OReps.split (Nat.succ.inj h) r
    subst e
    exact ⟨_, fb, (List.append_assoc _ _ _).symm, .cons q h1, h2⟩
/-- an own list gets new items, out of its old ones and of what lies on top of it; some come to the top -/
theorem R.relist {Γ : Ctx} {σ : St} {e : Env} {τ : List (Option V)} {stk : Env} {G H : Hp} {as : List V} {ao : List O} {p : Addr} {os : List O} (r : R K Γ σ e (as.map some ++ some (.ref p) :: τ) (ao.map some ++ some (.l os) :: stk) G H) (hl : as.length = ao.length) :
    ∃ vs, H p = some (.lst vs) ∧ vs.length = os.length ∧ ∀ (ws vs' : List V) (us os' : List O) (L : List (V × O)), ws.length = us.length → vs'.length = os'.length → L.Sublist (as.zip ao ++ vs.zip os) → L.Perm (ws.zip us ++ vs'.zip os') →
      R K Γ σ e (ws.map some ++ some (.ref p) :: τ) (us.map some ++ some (.l os') :: stk) G (upd H p (.lst vs')) := by
  obtain ⟨f1, f2, c, s, n, m⟩ := r.ex
  obtain ⟨fa, fr, e1, ha, hr⟩ := s.split (by simpa using hl)
  subst e1
  cases hr with
  | @cons _ _ fl _ _ fb hlst hs =>
    cases hlst with
    | @l _ vs _ fi hp hg hi =>
      refine ⟨vs, hp, hi.length, fun ws vs' us os' L h1 h2 sl pm => ?_⟩
      have hz : OReps K G H ((as.zip ao ++ vs.zip os).map Prod.fst) ((as.zip ao ++ vs.zip os).map Prod.snd) (fa ++ fi) := by
        rw [List.map_append, List.map_append, zip_fst' hl, zip_snd' hl, zip_fst' hi.length, zip_snd' hi.length]
        exact ha.reps.append hi
      obtain ⟨g1, k1, s1⟩ := hz.subl sl
      obtain ⟨g2, k2, p2⟩ := k1.pairs pm
      rw [List.map_append, List.map_append, zip_fst' h1, zip_snd' h1, zip_fst' h2, zip_snd' h2] at k2
      obtain ⟨gw, gv, eg, kw, kv⟩ := k2.split h1
      subst eg
      have pmA : (f1 ++ (fa ++ ((p :: fi) ++ fb))).Perm (p :: (f1 ++ ((fa ++ fi) ++ fb))) := by
        have a1 : (fa ++ ((p :: fi) ++ fb)).Perm (p :: ((fa ++ fi) ++ fb)) := by
          rw [List.append_assoc]
          exact List.perm_middle
        exact (List.Perm.append_left f1 a1).trans List.perm_middle
      have nA := pmA.nodup_iff.mp n
      obtain ⟨np1, nA2⟩ := List.nodup_cons.mp nA
      have slB : (f1 ++ (g1 ++ fb)).Sublist (f1 ++ ((fa ++ fi) ++ fb)) := List.Sublist.append (.refl _) (List.Sublist.append s1 (.refl _))
      have pmB : (f1 ++ ((gw ++ gv) ++ fb)).Perm (f1 ++ (g1 ++ fb)) := List.Perm.append_left _ (List.Perm.append_right _ p2)
      have pmC : (f1 ++ (gw ++ ((p :: gv) ++ fb))).Perm (p :: (f1 ++ ((gw ++ gv) ++ fb))) := by
        have a1 : (gw ++ ((p :: gv) ++ fb)).Perm (p :: ((gw ++ gv) ++ fb)) := by
          rw [List.append_assoc]
          exact List.perm_middle
        exact (List.Perm.append_left f1 a1).trans List.perm_middle
      have npB : p ∉ f1 ++ ((gw ++ gv) ++ fb) := fun z => np1 (slB.subset (pmB.mem_iff.mp z))
      have kp : ∀ f : List Addr, p ∉ f → Keep G H G (upd H p (.lst vs')) f := fun f hf => ⟨Sub.refl G, fun a h => ⟨upd_ne (fun z => hf (by rw [← z]; exact h)), fun z => z⟩⟩
      have hpw : Γ.H0 p ≠ none → p ∈ Γ.P := fun z => by
        rcases m p (pmA.mem_iff.mpr List.mem_cons_self) with y | y
        · exact y
        · exact absurd y z
      have w : Wd Γ G (upd H p (.lst vs')) := {
        sub := fun a x e => by
          rw [upd_ne (fun z => by rw [z, hg] at e; cases e)]
          exact r.wd.sub a x e
        ext := r.wd.ext
        fr := fun a h nm => by
          have ne : a ≠ p := fun z => by
            rw [z] at h nm
            exact nm (hpw h)
          rw [upd_ne ne]
          exact r.wd.fr a h nm }
      have cw : Cells K G (upd H p (.lst vs')) (ws.map some) (us.map some) gw := (kw.keep (kp _ fun z => npB (List.mem_append_right _ (List.mem_append_left _ (List.mem_append_left _ z))))).cells
      refine ⟨w, r.pin, f1, gw ++ ((p :: gv) ++ fb), c.keep (kp _ fun z => npB (List.mem_append_left _ z)), cw.append (.cons (.l upd_same hg (kv.keep (kp _ fun z => npB (List.mem_append_right _ (List.mem_append_left _ (List.mem_append_right _ z)))))) (hs.keep (kp _ fun z => npB (List.mem_append_right _ (List.mem_append_right _ z))))), pmC.nodup_iff.mpr (List.nodup_cons.mpr ⟨npB, pmB.nodup_iff.mpr (nA2.sublist slB)⟩), fun a h => ?_⟩
      rcases List.mem_cons.mp (pmC.mem_iff.mp h) with rfl | h
      · exact m _ (pmA.mem_iff.mpr List.mem_cons_self)
      · exact m a (pmA.mem_iff.mpr (List.mem_cons_of_mem _ (slB.subset (pmB.mem_iff.mp h))))
/-! ### methods -/
/-- x.m(..): from the list's items and the arguments: what comes out, the new items -/
def mMut (i : Nat) (f : List O → List O → Option (O × List O)) (ks : List AK) : ME := fun env => match env[i]? with
  | some (some (.l _)) => match evalA ks env with
    | .ok cs e => match allS cs, e[i]? with
      | some as, some (some (.l os)) => match f os as with
        | some (o, os') => .ok o (e.set i (some (.l os')))
        | none => .fail
      | _, _ => .fail
    | .exc x e => .exc x e
    | .fail => .fail
  | _ => .fail
def MutS (K : PySem.W.Frag) (r : V → List V → Hp → VK → Prop) (f : List O → List O → Option (O × List O)) : Prop := ∀ (Γ : Ctx) (σ : St) (e : Env) (τ : List (Option V)) (stk : Env) (G H : Hp) (p : Addr) (as : List V) (ao os : List O) (o : O) (os' : List O) (Q : VK),
  R K Γ σ e (as.map some ++ some (.ref p) :: τ) (ao.map some ++ some (.l os) :: stk) G H → as.length = ao.length → f os ao = some (o, os') → (∀ v G' H', R K Γ σ e (some v :: some (.ref p) :: τ) (some o :: some (.l os') :: stk) G' H' → Q v H') → r (.ref p) as H Q
theorem esnd_mut {i : Nat} {t : TA} {ks : List AK} {r : V → List V → Hp → VK → Prop} {f : List O → List O → Option (O × List O)} (h1 : ASnd K mg W np t ks) (h2 : MutS K r f) : ESnd K mg W np (tBM K "list" r (tVar i) t) (mMut i f ks) := by
  intro Γ σ env τ stk G H Q hp rr h
  unfold mMut at h
  split at h
  · rename_i l0 he
    obtain ⟨v, g, ev, q⟩ := rr.slot he
    cases q with
    | @l p vs0 _ fp hp0 hg0 hr0 =>
      refine ⟨.ref p, ev, .inl ⟨rfl, vs0, .inl (.inl hp0)⟩, h1 Γ σ env τ stk G H _ hp rr ?_⟩
      cases e1 : evalA ks env with
      | ok cs e =>
        simp only [e1] at h
        intro vs G1 H1 hl r1 n1
        split at h
        · rename_i as os e2 e3
          have ec := allS_of e2
          subst ec
          have hl' : vs.length = as.length := by
            rw [← hl, List.length_map]
          cases e4 : f os as with
          | none => simp only [e4] at h; exact False.elim h
          | some z =>
            obtain ⟨o, os'⟩ := z
            simp only [e4] at h
            obtain ⟨v1, ev1, r2⟩ := r1.move e3
            rw [ev] at ev1
            cases ev1
            have r3 := R.unrot (vs := vs.map some) (os := as.map some) r2 (by simp [hl'])
            refine h2 Γ σ _ τ stk G1 H1 p vs as os o os' Q r3 hl' e4 fun v G' H' r4 => h v G' H' ?_
            have r5 : R K Γ σ (e.set i none) (some (.ref p) :: ([some v] ++ τ)) (some (.l os') :: ([some o] ++ stk)) G' H' := R.rot (vs := [some v]) (os := [some o]) r4 rfl
            have r6 := r5.back ev
            rw [List.set_set] at r6
            exact r6
        · exact False.elim h
      | exc x e =>
        simp only [e1] at h
        exact h
      | fail =>
        simp only [e1] at h
        exact h
  · exact False.elim h
theorem de_mut {i : Nat} {x name : Str} {id : String} {r : V → List V → Hp → VK → Prop} {f : List O → List O → Option (O × List O)} {e : Expr} {es : List Expr} {ks : List AK} {q apos cpos : Pos} (pa : PlainAttrs "list") (slot : Slot "list" name id) (hty : typeOf (.builtin id) = pure (.type "method_descriptor")) (hm : MtR X id r) (h2 : MutS X.K r f) (ha : DA X W np (e :: es) ks)
    (hN : X.N[i]? = some x := by rfl) (hv : Vis X.env.scope x := by first | exact Or.inl rfl | exact Or.inr (Or.inl rfl) | exact Or.inr (Or.inr rfl)) (hd : (x == ("__debug__" : Str)) = false := by decide) (hcd : (x == ("__classdict__" : Str)) = false := by decide)
    (hbase : attributeBase (.Name x q) name X.env (eval (.Name x q) X.env) = eval (.Name x q) X.env := by rfl)
    (hfew : ((backTo cpos (starEach (e :: es) X.env)).all (fun x => !x.1) && (backToKw cpos (keywordEach [] X.env)).all (fun x => x.1.isSome)
      && decide ((e :: es).length + ([] : List Keyword).length + (if ([] : List Keyword).isEmpty then 0 else 1) < 30)) = true := by rfl)
    (hline : (apos.endLine == cpos.line) = true := by rfl) (hs : starEach (e :: es) X.env = (false, eval e X.env) :: starEach es X.env := by rfl) (hplain : (backTo cpos (starEach es X.env)).any (·.1) = false := by rfl) :
    DE X W np (.Call (.Attribute (.Name x q) name apos) (e :: es) [] cpos) (mMut i f ks) := by
  obtain ⟨t, p, s⟩ := ha.ex
  exact ⟨_, pe_bm pa slot hty hm (pe_var (i := i) hN hv hd hcd) p hbase (by exact hfew) hline (by exact hs) (by exact hplain), esnd_mut s h2⟩
theorem de_mut0 {i : Nat} {x name : Str} {id : String} {r : V → List V → Hp → VK → Prop} {f : List O → List O → Option (O × List O)} {q apos cpos : Pos} (pa : PlainAttrs "list") (slot : Slot "list" name id) (hty : typeOf (.builtin id) = pure (.type "method_descriptor")) (hm : MtR X id r) (h2 : MutS X.K r f)
    (hN : X.N[i]? = some x := by rfl) (hv : Vis X.env.scope x := by first | exact Or.inl rfl | exact Or.inr (Or.inl rfl) | exact Or.inr (Or.inr rfl)) (hd : (x == ("__debug__" : Str)) = false := by decide) (hcd : (x == ("__classdict__" : Str)) = false := by decide)
    (hbase : attributeBase (.Name x q) name X.env (eval (.Name x q) X.env) = eval (.Name x q) X.env := by rfl) (hline : (apos.endLine == cpos.line) = true := by rfl) :
    DE X W np (.Call (.Attribute (.Name x q) name apos) [] [] cpos) (mMut i f []) :=
  ⟨_, pe_bm0 pa slot hty hm (pe_var (i := i) hN hv hd hcd) hbase hline, esnd_mut asnd_nil h2⟩
def fApp (os as : List O) : Option (O × List O) := match as with
  | [a] => if os.length < 16000000 then some (.d .non, os ++ [a]) else none
  | _ => none
theorem s_app : MutS K rAppend fApp := by
  intro Γ σ e τ stk G H p as ao os o os' Q r hl hf k
  unfold fApp at hf
  split at hf
  · rename_i a
    split at hf
    · rename_i hlen
      cases hf
      match as, hl with
      | [v], _ =>
        obtain ⟨vs, hp, hlv, rr⟩ := R.relist (as := [v]) (ao := [a]) r rfl
        refine ⟨p, vs, v, rfl, rfl, hp, by rw [sizeLine_eq]; omega, ?_⟩
        have r2 := rr [] (vs ++ [v]) [] (os ++ [a]) _ rfl (by simp [hlv]) (.refl _) (by
          rw [List.zip_append hlv]
          exact List.perm_append_comm)
        exact k _ _ _ (R.pushD (x := .non) r2 .non)
    · cases hf
  · cases hf
def fPop (os as : List O) : Option (O × List O) := match as with
  | [] => match os.getLast? with
    | some o => some (o, os.dropLast)
    | none => none
  | _ => none
theorem s_pop : MutS K rPop fPop := by
  intro Γ σ e τ stk G H p as ao os o os' Q r hl hf k
  unfold fPop at hf
  split at hf
  · match as, hl with
    | [], _ =>
      obtain ⟨vs, hp, hlv, rr⟩ := R.relist (as := []) (ao := []) r rfl
      cases hg : os.getLast? with
      | none => rw [hg] at hf; cases hf
      | some z =>
        rw [hg] at hf
        cases hf
        have neo : os ≠ [] := fun z => by
          rw [z] at hg
          cases hg
        have ho : os = os.dropLast ++ [o] := by
          have h1 := List.getLast?_eq_some_getLast neo
          rw [hg] at h1
          have h2 := Option.some.inj h1
          rw [h2]
          exact (List.dropLast_concat_getLast neo).symm
        have ne : vs ≠ [] := fun z => by
          rw [z] at hlv
          have : os = [] := List.eq_nil_of_length_eq_zero hlv.symm
          rw [this] at hg
          cases hg
        have hv : vs = vs.dropLast ++ [vs.getLast ne] := (List.dropLast_concat_getLast ne).symm
        have hd : vs.dropLast.length = os.dropLast.length := by simp [hlv]
        refine ⟨p, vs, vs.getLast ne, rfl, rfl, hp, by rw [List.getLast_eq_getElem]; simp, ?_⟩
        refine k _ _ _ (rr [vs.getLast ne] vs.dropLast [o] os.dropLast _ rfl hd (.refl _) ?_)
        show (vs.zip os).Perm _
        conv => lhs; rw [hv, ho]
        rw [List.zip_append hd]
        exact List.perm_append_comm
  · cases hf
theorem perm_erase {α : Type} : ∀ {l : List α} {k : Nat} {x : α}, l[k]? = some x → l.Perm (x :: l.eraseIdx k)
  | [], _, _, h => by simp at h
  | y :: l, 0, x, h => by
    cases h
    exact .refl _
  | y :: l, k + 1, x, h => by
    have := perm_erase (l := l) (k := k) (x := x) (by simpa using h)
    rw [List.eraseIdx_cons_succ]
    exact (this.cons y).trans (.swap _ _ _)
theorem zip_erase {α β : Type} : ∀ {a : List α} {b : List β} {k : Nat}, a.length = b.length → (a.zip b).eraseIdx k = (a.eraseIdx k).zip (b.eraseIdx k)
  | [], [], _, _ => by simp
  | [], _ :: _, _, h => by cases h
  | _ :: _, [], _, h => by cases h
  | x :: a, y :: b, 0, h => by simp
  | x :: a, y :: b, k + 1, h => by simp [zip_erase (Nat.succ.inj h)]
def fPopAt (os as : List O) : Option (O × List O) := match as with
  | [.d (.int i)] => match seqIndex? i os.length with
    | some k => match os[k]? with
      | some o => if -(2 ^ 63) ≤ i ∧ i < 2 ^ 63 then some (o, os.eraseIdx k) else none
      | none => none
    | none => none
  | _ => none
theorem len_eraseEq {α β : Type} : ∀ {a : List α} {b : List β} {k : Nat}, a.length = b.length → (a.eraseIdx k).length = (b.eraseIdx k).length := by
  intro a b k h
  rw [List.length_eraseIdx, List.length_eraseIdx, h]
theorem s_popAt : MutS K rPopAt fPopAt := by
  intro Γ σ e τ stk G H p as ao os o os' Q r hl hf k
  unfold fPopAt at hf
  split at hf
  · rename_i i
    match as, hl with
    | [v], _ =>
      have hv : v = .int i := by
        have := r.topD
        cases this
        rfl
      subst hv
      have r1 : R K Γ σ e (some (.ref p) :: τ) (some (.l os) :: stk) G H := r.pop1
      obtain ⟨vs, hp, hlv, rr⟩ := R.relist (as := []) (ao := []) r1 rfl
      cases e1 : seqIndex? i os.length with
      | none => rw [e1] at hf; cases hf
      | some j =>
        cases e2 : os[j]? with
        | none => simp only [e1, e2] at hf; cases hf
        | some z =>
          simp only [e1, e2] at hf
          split at hf
          · rename_i hb
            cases hf
            have hj : j < vs.length := by
              rw [hlv]
              exact (List.getElem?_eq_some_iff.mp e2).1
            refine ⟨p, vs, i, j, vs[j], rfl, rfl, hp, hb.1, hb.2, by rw [hlv]; exact e1, by simp [hj], ?_⟩
            refine k _ _ _ (rr [vs[j]] (vs.eraseIdx j) [o] (os.eraseIdx j) _ rfl (len_eraseEq hlv) (.refl _) ?_)
            show (vs.zip os).Perm ((vs[j], o) :: (vs.eraseIdx j).zip (os.eraseIdx j))
            rw [← zip_erase hlv]
            refine perm_erase ?_
            rw [List.getElem?_zip_eq_some]
            exact ⟨by simp [hj], e2⟩
          · cases hf
  · cases hf
end
end Dn
end
section
set_option Elab.async false
set_option linter.all false
set_option maxRecDepth 100000
set_option maxHeartbeats 4000000
/-! Dn13: stores by place, slices, list(range(..)), methods that only look. -/
namespace Dn
open PySem PySem.Spec L2
open PyProof.Rows hiding St
/-- x[k] = v, x a list of its own -/
def mPut (i : Nat) (m : ME) (k : AK) : MS := fun env => onE (m env) fun o e1 => match e1[i]? with
  | some (some (.l _)) => match evalK k e1 with
    | .ok c e2 => match resA [k] [c] e2, e2[i]? with
      | some [a], some (some (.l os)) => match asI a with
        | some j => match ixN os.length j with
          | some n => .nx (e2.set i (some (.l (os.set n o))))
          | none => .fail
        | none => .fail
      | _, _ => .fail
    | .exc x e => .exc x e
    | .fail => .fail
  | _ => .fail
def cutD (xs : List D) (lo hi : Option Int) : List D := (xs.drop (HT.sIx xs.length 0 lo)).take (HT.sIx xs.length xs.length hi - HT.sIx xs.length 0 lo)
/-- a part of a slice -/
def mPart (m : Option ME) : Env → Rs (Option Int) := fun e => match m with
  | none => .ok none e
  | some m => match m e with
    | .ok o e1 => match asI o with
      | some i => .ok (some i) e1
      | none => .fail
    | .exc x e => .exc x e
    | .fail => .fail
def sliceO (o : O) (lo hi : Option Int) : Option O := match tupF o with
  | some xs => some (.d (.tup (cutD xs lo hi)))
  | none => (lstF o).map fun xs => .l ((cutD xs lo hi).map O.d)
def mSlice (k : AK) (lo hi : Option ME) : ME := fun env => match evalA [k] env with
  | .ok cs e => match mPart lo e with
    | .ok l e1 => match mPart hi e1 with
      | .ok h e2 => match resA [k] cs e2 with
        | some [o] => match sliceO o l h with
          | some z => .ok z e2
          | none => .fail
        | _ => .fail
      | .exc x e => .exc x e
      | .fail => .fail
    | .exc x e => .exc x e
    | .fail => .fail
  | .exc x e => .exc x e
  | .fail => .fail
section
variable {X : Cx} {W : WX} {np : Asm} {K : PySem.W.Frag} {mg : Str → Option Value}
structure DP (X : Cx) (W : WX) (np : Asm) (e : Option Expr) (m : Option ME) : Prop where
  ex : ∃ t, PO X e t ∧ ∀ (Γ : Ctx) (σ : St) (env : Env) (τ : List (Option V)) (stk : Env) (G H : Hp) (Q : Option Int → Hp → Prop), PinOk Γ np → R X.K Γ σ env τ stk G H → RsQ X.K X.mg Γ W σ τ stk (fun b e => ∀ G' H', R X.K Γ σ e τ stk G' H' → Q b H') (mPart m env) → t σ H Q
theorem dp_none : DP X W np none none := ⟨_, po_none, fun Γ σ env τ stk G H Q hp r h => h G H r⟩
theorem dp_some {e : Expr} {m : ME} (h : DE X W np e m) : DP X W np (some e) (some m) := by
  obtain ⟨t, p, s⟩ := h.ex
  refine ⟨_, po_some p, fun Γ σ env τ stk G H Q hp r h => s Γ σ env τ stk G H _ hp r ?_⟩
  unfold mPart at h
  cases q : m env with
  | ok o e1 =>
    simp only [q] at h
    intro v G' H' r'
    cases e2 : asI o with
    | none => simp only [e2] at h; exact False.elim h
    | some i =>
      simp only [e2] at h
      obtain rfl := orep_int r'.top e2
      exact ⟨i, rfl, h G' H' r'.pop⟩
  | exc x e1 =>
    simp only [q] at h
    exact h
  | fail =>
    simp only [q] at h
    exact h
theorem Reps.drop {G : Hp} : ∀ {vs : List V} {xs : List D} (n : Nat), Reps K G vs xs → Reps K G (vs.drop n) (xs.drop n)
  | _, _, 0, r => r
  | _, _, _ + 1, .nil => .nil
  | _, _, n + 1, .cons _ r => r.drop n
theorem Reps.take {G : Hp} : ∀ {vs : List V} {xs : List D} (n : Nat), Reps K G vs xs → Reps K G (vs.take n) (xs.take n)
  | _, _, 0, _ => .nil
  | _, _, _ + 1, .nil => .nil
  | _, _, n + 1, .cons h r => .cons h (r.take n)
theorem Reps.cut {G : Hp} {vs : List V} {xs : List D} {lo hi : Option Int} (r : Reps K G vs xs) : Reps K G (cutV vs lo hi) (cutD xs lo hi) := by
  unfold cutV cutD
  rw [r.length]
  exact (r.drop _).take _
theorem cutD_whole {xs : List D} {lo hi : Option Int} (h : HT.sIx xs.length 0 lo = 0 ∧ HT.sIx xs.length xs.length hi = xs.length) : cutD xs lo hi = xs := by
  unfold cutD
  rw [h.1, h.2]
  simp
def rSlX (K : PySem.W.Frag) : V → Option Int → Option Int → Hp → VK → Prop := fun x lo hi H Q => rSlA K x lo hi H Q ∨ rSlL K x lo hi H Q
theorem sl_x : SlR X (rSlX X.K) := sl_tupA.or sl_list
theorem de_slice {e : Expr} {k : AK} {lo hi : Option Expr} {ml mh : Option ME} {p2 pos : Pos} (h : DK X W np e k) (hl : DP X W np lo ml) (hh : DP X W np hi mh) : DE X W np (.Subscript e (.Slice lo hi none p2) pos) (mSlice k ml mh) := by
  obtain ⟨t, p, s⟩ := h.ex
  obtain ⟨tl, pl, sl⟩ := hl.ex
  obtain ⟨th, ph, sh⟩ := hh.ex
  refine ⟨_, pe_slice sl_x p pl ph, fun Γ σ env τ stk G H Q hp r h => ?_⟩
  refine (show tCons t tNil σ H (one1 fun x H1 => tl σ H1 fun l H2 => th σ H2 fun u H3 => rSlX X.K x l u H3 Q) from asnd_cons s asnd_nil Γ σ env τ stk G H _ hp r ?_)
  unfold mSlice at h
  cases e1 : evalA [k] env with
  | ok cs e =>
    simp only [e1] at h
    intro vs G1 H1 hlen r1 n1
    have hl1 := areNm_len n1
    match vs, hl1 with
    | [v], _ =>
      refine sl Γ σ e _ _ G1 H1 _ hp r1 ?_
      cases e2 : mPart ml e with
      | ok l e' =>
        simp only [e2] at h
        intro G2 H2 r2
        refine sh Γ σ e' _ _ G2 H2 _ hp r2 ?_
        cases e3 : mPart mh e' with
        | ok u e'' =>
          simp only [e3] at h
          intro G3 H3 r3
          split at h
          · rename_i o eo
            have ha := oall_of (pre := []) (pres := []) rfl r3 hlen n1 eo
            match ha with
            | .cons h1 .nil =>
              cases es : sliceO o l u with
              | none => simp only [es] at h; exact False.elim h
              | some z =>
                simp only [es] at h
                have k : ∀ v' G' H', R X.K Γ σ e'' (some v' :: ([some v] ++ τ)) (some z :: (cs ++ stk)) G' H' → Q v' H' := fun v' G' H' r' => h v' G' H' (R.dropMid (vs := [some v]) (os := cs) (by simp [hlen]) r')
                unfold sliceO at es
                cases et : tupF o with
                | some xs =>
                  simp only [et] at es
                  cases es
                  obtain ⟨a, ws, ev, sq, rp, sg⟩ := tupF_of r3.wd.sub h1 et
                  refine .inl ⟨a, ws, ev, sq, fun hw => ?_, fun hw p hpn => ?_⟩
                  · rw [rp.length] at hw
                    refine k _ G3 H3 (r3.pushD ?_)
                    rw [cutD_whole hw]
                    exact .tup sg rp
                  · exact k _ _ _ (R.mkT (τ := [some v] ++ τ) (stk := cs ++ stk) r3 rp.cut hpn)
                | none =>
                  simp only [et] at es
                  cases el : lstF o with
                  | none => rw [el] at es; cases es
                  | some xs =>
                    rw [el] at es
                    cases es
                    obtain ⟨a, ws, ev, sq, rp⟩ := lstF_of r3.wd.sub h1 el
                    exact .inr ⟨a, ws, ev, sq, fun p hpn => k _ _ _ (R.mkL (τ := [some v] ++ τ) (stk := cs ++ stk) r3 rp.cut hpn)⟩
          · exact False.elim h
        | exc x e'' =>
          simp only [e3] at h
          exact fun c d G' H' r q => h c d G' H' (R.popN (vs := [some v]) (os := cs) (by simp [hlen]) r) q
        | fail =>
          simp only [e3] at h
          exact h
      | exc x e' =>
        simp only [e2] at h
        exact fun c d G' H' r q => h c d G' H' (R.popN (vs := [some v]) (os := cs) (by simp [hlen]) r) q
      | fail =>
        simp only [e2] at h
        exact h
  | exc x e =>
    simp only [e1] at h
    exact h
  | fail =>
    simp only [e1] at h
    exact h
/-! ### x[k] = v -/
theorem Reps.setX {α β : Type} {a : List α} {b : List β} (h : a.length = b.length) (n : Nat) (x : α) (y : β) : (a.set n x).length = (b.set n y).length := by
  rw [List.length_set, List.length_set, h]
theorem perm_set {α : Type} : ∀ {l : List α} {k : Nat} {y : α}, k < l.length → (l.set k y).Perm (y :: l.eraseIdx k)
  | [], _, _, h => by cases h
  | x :: l, 0, y, _ => .refl _
  | x :: l, k + 1, y, h => by
    have := perm_set (l := l) (k := k) (y := y) (Nat.lt_of_succ_lt_succ h)
    rw [List.set_cons_succ, List.eraseIdx_cons_succ]
    exact (this.cons x).trans (.swap _ _ _)
theorem zip_set {α β : Type} : ∀ {a : List α} {b : List β} {k : Nat} {x : α} {y : β}, a.length = b.length → (a.set k x).zip (b.set k y) = (a.zip b).set k (x, y)
  | [], [], _, _, _, _ => by simp
  | [], _ :: _, _, _, _, h => by cases h
  | _ :: _, [], _, _, _, h => by cases h
  | x :: a, y :: b, 0, _, _, h => by simp
  | x :: a, y :: b, k + 1, _, _, h => by simp [zip_set (Nat.succ.inj h)]
theorem ixN_lt {n k : Nat} {i : Int} (h : ixN n i = some k) : k < n := (ixN_seq h).2.1
theorem ssnd_put {i : Nat} {t ti : TE} {m : ME} {k : AK} (h1 : ESnd K mg W np t m) (h2 : KSnd K mg W np ti k) : SSnd K mg W np (tAsg t (gSub (tVar i) ti rSetL)) (mPut i m k) := by
  intro Γ σ env G H D hp r h
  refine h1 Γ σ env [] [] G H _ hp r ((onE_q h).imp fun o e1 q v G1 H1 r1 => ?_)
  split at q
  · rename_i l0 he
    obtain ⟨w, _, ew, _⟩ := r1.slot he
    refine ⟨w, ew, h2 Γ σ e1 _ _ G1 H1 _ hp r1 ?_⟩
    cases ek : evalK k e1 with
    | ok c e2 =>
      simp only [ek] at q
      intro y G2 H2 r2 n2
      split at q
      · rename_i a os e3 e4
        have ha := oall_of (ks := [k]) (vs := [y]) (cs := [c]) (pre := []) (pres := []) (τ := [some v]) (stk := [some o]) rfl r2 rfl ⟨y, [], rfl, n2, rfl⟩ e3
        match ha with
        | .cons hy .nil =>
          cases ea : asI a with
          | none => simp only [ea] at q; exact False.elim q
          | some j =>
            simp only [ea] at q
            obtain rfl := orep_int hy ea
            cases en : ixN os.length j with
            | none => simp only [en] at q; exact False.elim q
            | some n =>
              simp only [en] at q
              have r3 : R K Γ σ e2 [some v] [some o] G2 H2 := r2.pop1
              obtain ⟨w', ew', r4⟩ := r3.move e4
              rw [ew] at ew'
              cases ew'
              have top := r4.top
              obtain ⟨f0, top⟩ := top
              cases top with
              | @l p vs0 _ fp hp0 hg0 hr0 =>
                have r5 : R K Γ σ (e2.set i none) ([v].map some ++ some (.ref p) :: []) ([o].map some ++ some (.l os) :: []) G2 H2 := R.rot (vs := [some (.ref p)]) (os := [some (.l os)]) (τ := []) (stk := []) r4 rfl
                obtain ⟨vs, hpv, hlv, rr⟩ := R.relist (as := [v]) (ao := [o]) r5 rfl
                have hn : n < vs.length := by
                  rw [hlv]
                  exact ixN_lt en
                have r6 := rr [] (vs.set n v) [] (os.set n o) ((v, o) :: (vs.zip os).eraseIdx n) rfl (Reps.setX hlv n v o) (List.Sublist.cons_cons _ (List.eraseIdx_sublist _ _)) (by
                  show ((v, o) :: (vs.zip os).eraseIdx n).Perm ((vs.set n v).zip (os.set n o))
                  rw [zip_set hlv]
                  exact (perm_set (by rw [List.length_zip, ← hlv, Nat.min_self]; exact hn)).symm)
                have r7 := R.back (τ := []) (stk := []) r6 ew
                rw [List.set_set] at r7
                refine ⟨p, vs, j, n, rfl, rfl, hpv, by rw [hlv]; exact en, q σ _ _ r7⟩
      · exact False.elim q
    | exc x e2 =>
      simp only [ek] at q
      exact fun c d G' H' r q' => q σ c d G' H' r.pop1 q'
    | fail =>
      simp only [ek] at q
      exact q
  · exact False.elim q
theorem ds_put {i : Nat} {x : Str} {e ix : Expr} {m : ME} {k : AK} {p pos apos : Pos} (h : DE X W np e m) (h2 : DK X W np ix k) (hN : X.N[i]? = some x := by rfl) (hv : Vis X.env.scope x := by first | exact Or.inl rfl | exact Or.inr (Or.inl rfl) | exact Or.inr (Or.inr rfl)) (hd : (x == ("__debug__" : Str)) = false := by decide) (hcd : (x == ("__classdict__" : Str)) = false := by decide)
    (ha : ∀ v, assign (.Subscript (.Name x p) ix apos) X.env v = (do
      let ov ← holding [v] (eval (.Name x p) X.env)
      let iv ← holding [v, ov] (eval ix X.env)
      standAt apos
      holding [v, ov, iv] (setItem ov iv v)
      release [v, ov, iv] []) := by intro _; rfl)
    (hs : swapsWithSole [.Subscript (.Name x p) ix apos] e pos.line X.env = pure false := by rfl) (hw : swappedStores [.Subscript (.Name x p) ix apos] e X.env = pure none := by rfl) (h1 : (assignEach [.Subscript (.Name x p) ix apos] X.env).map (·.2) = [assign (.Subscript (.Name x p) ix apos) X.env] := by rfl) :
    DS X W np (.Assign [.Subscript (.Name x p) ix apos] e pos) (mPut i m k) := by
  obtain ⟨t, pe, s⟩ := h.ex
  obtain ⟨ti, pi, si⟩ := h2.ex
  exact ⟨_, ps_asg pe (pg_sub (pe_var (i := i) hN hv hd hcd) pi set_list ha) hs hw h1, ssnd_put s si⟩
end
end Dn
end
section
set_option Elab.async false
set_option linter.all false
set_option maxRecDepth 100000
set_option maxHeartbeats 4000000
/-! Dn14: operators upon several kinds, a walk over a list or a tuple, short words for the bodies. -/
namespace Dn
open PySem PySem.Spec L2
open PyProof.Rows hiding St
section
variable {X : Cx} {W : WX} {np : Asm} {K : PySem.W.Frag} {mg : Str → Option Value}
theorem OAll.len {G H : Hp} : ∀ {vs : List V} {os : List O}, OAll K G H vs os → vs.length = os.length
  | _, _, .nil => rfl
  | _, _, .cons _ r => congrArg (· + 1) r.len
def orR (r r' : R2) : R2 := fun x y H Q => r x y H Q ∨ r' x y H Q
theorem opr_or {f : Value → Value → Sem Value} {r r' : R2} (h : OpR X f r) (h' : OpR X f r') : OpR X f (orR r r') := by
  intro pins s σ H x y v u Q I rx ry hq
  rcases hq with hq | hq
  · exact h pins s σ H x y v u Q I rx ry hq
  · exact h' pins s σ H x y v u Q I rx ry hq
def orO (f g : List O → Option O) : List O → Option O := fun os => match f os with
  | some o => some o
  | none => g os
theorem ops_or {r r' : R2} {f g : List O → Option O} (h : OpS K (r2 r) f) (h' : OpS K (r2 r') g) (hg : ∀ os o, g os = some o → os.length = 2) (hf : ∀ os o, f os = some o → os.length = 2) : OpS K (r2 (orR r r')) (orO f g) := by
  intro Γ σ e τ stk G H vs os o Q rr ha ho k
  unfold orO at ho
  have two : ∀ (n : os.length = 2), (∃ x y, vs = [x, y]) := fun n => by
    have hl := ha.len
    rw [n] at hl
    match vs, hl with
    | [x, y], _ => exact ⟨x, y, rfl⟩
  cases e1 : f os with
  | some z =>
    simp only [e1] at ho
    cases ho
    obtain ⟨x, y, rfl⟩ := two (hf _ _ e1)
    exact .inl (h Γ σ e τ stk G H [x, y] os _ Q rr ha e1 k)
  | none =>
    simp only [e1] at ho
    obtain ⟨x, y, rfl⟩ := two (hg _ _ ho)
    exact .inr (h' Γ σ e τ stk G H [x, y] os _ Q rr ha ho k)
theorem two_fI2 {C : Int → Int → Bool} {g : Int → Int → D} : ∀ (os : List O) (o : O), fI2 C g os = some o → os.length = 2
  | [], _, h => by cases h
  | [_], _, h => by cases h
  | [_, _], _, _ => rfl
  | _ :: _ :: _ :: _, _, h => by cases h
theorem two_cat : ∀ (os : List O) (o : O), oCat os = some o → os.length = 2
  | [], _, h => by cases h
  | [_], _, h => by cases h
  | [_, _], _, _ => rfl
  | _ :: _ :: _ :: _, _, h => by cases h
theorem two_catL : ∀ (os : List O) (o : O), oCatL os = some o → os.length = 2
  | [], _, h => by cases h
  | [_], _, h => by cases h
  | [_, _], _, _ => rfl
  | _ :: _ :: _ :: _, _, h => by cases h
theorem two_or {f g : List O → Option O} (hf : ∀ os o, f os = some o → os.length = 2) (hg : ∀ os o, g os = some o → os.length = 2) : ∀ os o, orO f g os = some o → os.length = 2 := fun os o h => by
  unfold orO at h
  cases e1 : f os with
  | some z => exact hf _ _ e1
  | none =>
    simp only [e1] at h
    exact hg _ _ h
/-- + of ints, of tuples, of lists -/
def oPlus : List O → Option O := orO oAdd (orO oCat oCatL)
abbrev rPlus (K : PySem.W.Frag) : R2 := orR (rI0 fun i j => .int (i + j)) (orR (rCatA K) rCat)
theorem op_plus : OpR X (binaryOp .Add) (rPlus X.K) := opr_or op_add (opr_or op_catA op_cat)
theorem s_plus : OpS K (r2 (rPlus K)) oPlus := ops_or s_add (ops_or s_catT s_catL two_catL two_cat) (two_or two_cat two_catL) two_fI2
/-! a list or a tuple is walked -/
def itS : D → Option (List D)
  | .tup xs => some xs
  | .lst xs => some xs
  | .scr xs => some xs
  | _ => none
theorem pi_or {tg it : Expr} {w w' : TI} (h : PI X tg it w) (h' : PI X tg it w') : PI X tg it (fun σ H R => w σ H R ∨ w' σ H R) := ⟨fun pins s σ H R I hq => by
  rcases hq with hq | hq
  · exact h.run pins s σ H R I hq
  · exact h'.run pins s σ H R I hq⟩
theorem di_seq {tg e : Expr} {m : ME} (h : DE X W np e m) : DI X W np tg e (mIt itS m) := by
  obtain ⟨tl, pl, sl⟩ := (di_list (tg := tg) h).ex
  obtain ⟨tt, pt, st⟩ := (di_tup (tg := tg) h).ex
  refine ⟨_, pi_or pl pt, fun Γ σ env τ stk G H Q hp r h => ?_⟩
  unfold mIt at h
  cases q : m env with
  | ok o e =>
    simp only [q] at h
    cases hd : frz o with
    | tup xs =>
      rw [hd] at h
      refine .inr (st Γ σ env τ stk G H Q hp r ?_)
      unfold mIt
      simp only [q, hd]
      exact h
    | lst xs =>
      rw [hd] at h
      refine .inl (sl Γ σ env τ stk G H Q hp r ?_)
      unfold mIt
      simp only [q, hd]
      exact h
    | scr xs =>
      rw [hd] at h
      refine .inl (sl Γ σ env τ stk G H Q hp r ?_)
      unfold mIt
      simp only [q, hd]
      exact h
    | _ =>
      rw [hd] at h
      exact False.elim h
  | exc x e =>
    simp only [q] at h
    refine .inl (sl Γ σ env τ stk G H Q hp r ?_)
    unfold mIt
    simp only [q]
    exact h
  | fail =>
    simp only [q] at h
    exact False.elim h
/-! ### methods of lists that only look -/
/-- the value is of that builtin type and has no dict of its own; a frozen tuple too -/
def tyW (K : PySem.W.Frag) (T : String) (x : V) (H : Hp) : Prop := tyV K T x H ∨ (T = "tuple" ∧ ∃ (p : Addr) (ob : Obj) (xs : List V), x = .ref p ∧ H p = some (.frz ob (.tup xs)) ∧ ob.dict = none)
theorem tyW_is {pins : List (Addr × Obj)} {σ : L2.St} {H : Hp} {s : Shared} {T : String} {x : V} {v : Value} (I : Inv X pins σ H s) (r : RelV x v) (ty : tyW X.K T x H) :
    s.TypeIs v T ∧ ∀ a, v = .ref a → ∃ ob, s.heap.get? a = some ob ∧ ob.dict = none := by
  rcases ty with ty | ⟨rfl, p, ob, xs, rfl, hp, hd⟩
  · exact tyV_is I r ty
  · cases r
    obtain ⟨e1, _, _, _, o2, e2, hc, _⟩ := (show ObjOk X.prog X.w H s.heap p (.frz ob (.tup xs)) from I.hok p _ hp)
    rw [e1] at e2
    cases e2
    refine ⟨⟨_, e1, hc⟩, fun a e => ?_⟩
    cases e
    exact ⟨_, e1, hd⟩
def tBW (K : PySem.W.Frag) (T : String) (r : V → List V → Hp → VK → Prop) (to : TE) (t : TA) : TE := fun σ H Q => to σ H fun x H1 => tyW K T x H1 ∧ t σ H1 fun xs H2 => r x xs H2 Q
theorem pe_bmW {o e : Expr} {es : List Expr} {to : TE} {t : TA} {name : Str} {apos cpos : Pos} {T id : String} {r : V → List V → Hp → VK → Prop} (pa : PlainAttrs T) (slot : Slot T name id) (hty : typeOf (.builtin id) = pure (.type "method_descriptor")) (hm : MtR X id r) (ho : PE X o to) (ha : PA X (e :: es) t)
    (hbase : attributeBase o name X.env (eval o X.env) = eval o X.env)
    (hfew : ((backTo cpos (starEach (e :: es) X.env)).all (fun x => !x.1) && (backToKw cpos (keywordEach [] X.env)).all (fun x => x.1.isSome)
      && decide ((e :: es).length + ([] : List Keyword).length + (if ([] : List Keyword).isEmpty then 0 else 1) < 30)) = true)
    (hline : (apos.endLine == cpos.line) = true) (hs : starEach (e :: es) X.env = (false, eval e X.env) :: starEach es X.env) (hplain : (backTo cpos (starEach es X.env)).any (·.1) = false) :
    PE X (.Call (.Attribute o name apos) (e :: es) [] cpos) (tBW X.K T r to t) := by
  refine ⟨fun pins s σ H Q I h => ?_⟩
  refine wpAny_Call_method_late hbase hfew hline rfl (thn (ho.run pins s σ H _ I h) fun v s1 ⟨x, H1, I1, r1, ty, q1⟩ => ?_)
  obtain ⟨h1, h2⟩ := tyW_is I1 r1 ty
  refine ⟨T, id, pa, slot, hty, h1, h2, ?_⟩
  have hA := ha.run cpos pins s1 σ H1 _ I1 q1
  rw [hs] at hA ⊢
  refine Calls.callWith_builtin (by show (false || (backTo cpos (starEach es X.env)).any (·.1)) = false; rw [hplain] <;> rfl) (Calls.evalArgs_plain ?_)
  exact thn hA fun us s2 ⟨vs, H2, I2, r2, q2⟩ => hm pins s2 σ H2 x vs v us Q I2 r1 r2 q2
def mLookG (g : O → Option (List D)) (f : List O → Option O) (k : AK) (ks : List AK) : ME := fun env => match evalK k env with
  | .ok c e => match (resK k c e).bind g with
    | some _ => match evalA ks e with
      | .ok cs e2 => match resA (k :: ks) (c :: cs) e2 with
        | some os => match f os with
          | some z => .ok z e2
          | none => .fail
        | none => .fail
      | .exc x e => .exc x e
      | .fail => .fail
    | none => .fail
  | .exc x e => .exc x e
  | .fail => .fail
abbrev mLook := mLookG lstF
/-- a tuple of which it is known that it has no dict -/
def tupN : O → Option (List D)
  | .t xs => some xs
  | _ => none
abbrev mLookT := mLookG tupN
def LookTy (K : PySem.W.Frag) (T : String) (g : O → Option (List D)) : Prop := ∀ (G H : Hp) (v : V) (o : O) (xs : List D), Sub G H → (∃ f, ORep K G H v o f) → g o = some xs → tyW K T v H
theorem lk_list : LookTy K "list" lstF := fun G H v o xs e h hx => by
  obtain ⟨a, vs, ev, sq, _⟩ := lstF_of e h hx
  subst ev
  exact .inl (.inl ⟨rfl, _, sq⟩)
theorem lk_tup : LookTy K "tuple" tupN := fun G H v o xs e h hx => by
  obtain ⟨f, h⟩ := h
  cases h with
  | d => cases hx
  | l => cases hx
  | t h g r => exact .inr ⟨rfl, _, _, _, rfl, e _ _ h, g⟩
def LookS (K : PySem.W.Frag) (r : V → List V → Hp → VK → Prop) (f : List O → Option O) : Prop := ∀ (Γ : Ctx) (σ : St) (e : Env) (τ : List (Option V)) (stk : Env) (G H : Hp) (v : V) (o : O) (vs : List V) (os : List O) (z : O) (Q : VK),
  R K Γ σ e τ stk G H → (∃ g, ORep K G H v o g) → OAll K G H vs os → f (o :: os) = some z → (∀ v G' H', R K Γ σ e (some v :: τ) (some z :: stk) G' H' → Q v H') → r v vs H Q
theorem esnd_look {T : String} {g : O → Option (List D)} (lt : LookTy K T g) {to : TE} {t : TA} {k : AK} {ks : List AK} {r : V → List V → Hp → VK → Prop} {f : List O → Option O} (h0 : KSnd K mg W np to k) (h1 : ASnd K mg W np t ks) (h2 : LookS K r f) : ESnd K mg W np (tBW K T r to t) (mLookG g f k ks) := by
  intro Γ σ env τ stk G H Q hp rr h
  refine h0 Γ σ env τ stk G H _ hp rr ?_
  unfold mLookG at h
  cases e0 : evalK k env with
  | ok c e =>
    simp only [e0] at h
    intro v G1 H1 r1 n1
    cases el : (resK k c e).bind g with
    | none => simp only [el] at h; exact False.elim h
    | some xs =>
      simp only [el] at h
      cases er : resK k c e with
      | none => rw [er] at el; cases el
      | some o =>
        rw [er] at el
        have ha1 := oall_of (ks := [k]) (vs := [v]) (cs := [c]) (os := [o]) (pre := []) (pres := []) rfl r1 rfl ⟨v, [], rfl, n1, rfl⟩ (by unfold resA resA; simp [er])
        have ho : ∃ g, ORep K G1 H1 v o g := by
          cases ha1 with
          | cons h _ => exact h
        refine ⟨lt G1 H1 v o xs r1.wd.sub ho el, h1 Γ σ e _ _ G1 H1 _ hp r1 ?_⟩
        cases e1 : evalA ks e with
        | ok cs e2 =>
          simp only [e1] at h
          intro vs G2 H2 hl r2 n2
          cases e3 : resA (k :: ks) (c :: cs) e2 with
          | none => simp only [e3] at h; exact False.elim h
          | some os =>
            simp only [e3] at h
            cases e4 : f os with
            | none => simp only [e4] at h; exact False.elim h
            | some z =>
              simp only [e4] at h
              have r3 : R K Γ σ e2 ([] ++ ((v :: vs).map some ++ τ)) ([] ++ ((c :: cs) ++ stk)) G2 H2 := R.rot r2 (by simp [hl])
              have ha := oall_of (ks := k :: ks) (vs := v :: vs) (cs := c :: cs) (pre := []) (pres := []) rfl r3 (by simp [hl]) ⟨v, vs, rfl, n1, n2⟩ e3
              cases ha with
              | cons hv hr => exact h2 Γ σ e2 _ _ G2 H2 v _ vs _ z Q r3 hv hr e4 fun v' G' H' r' => h v' G' H' (R.dropMid (vs := (v :: vs).map some) (os := c :: cs) (by simp [hl]) r')
        | exc x e2 =>
          simp only [e1] at h
          exact fun c' d G' H' r q => h c' d G' H' r.pop1 q
        | fail =>
          simp only [e1] at h
          exact h
  | exc x e =>
    simp only [e0] at h
    exact h
  | fail =>
    simp only [e0] at h
    exact h
theorem de_look {T : String} {g : O → Option (List D)} {o : Expr} {name : Str} {id : String} {r : V → List V → Hp → VK → Prop} {f : List O → Option O} {e : Expr} {es : List Expr} {k : AK} {ks : List AK} {apos cpos : Pos} (pa : PlainAttrs T) (slot : Slot T name id) (hty : typeOf (.builtin id) = pure (.type "method_descriptor")) (hm : MtR X id r) (lt : LookTy X.K T g) (h2 : LookS X.K r f) (ho : DK X W np o k) (ha : DA X W np (e :: es) ks)
    (hbase : attributeBase o name X.env (eval o X.env) = eval o X.env := by rfl)
    (hfew : ((backTo cpos (starEach (e :: es) X.env)).all (fun x => !x.1) && (backToKw cpos (keywordEach [] X.env)).all (fun x => x.1.isSome)
      && decide ((e :: es).length + ([] : List Keyword).length + (if ([] : List Keyword).isEmpty then 0 else 1) < 30)) = true := by rfl)
    (hline : (apos.endLine == cpos.line) = true := by rfl) (hs : starEach (e :: es) X.env = (false, eval e X.env) :: starEach es X.env := by rfl) (hplain : (backTo cpos (starEach es X.env)).any (·.1) = false := by rfl) :
    DE X W np (.Call (.Attribute o name apos) (e :: es) [] cpos) (mLookG g f k ks) := by
  obtain ⟨t, p, s⟩ := ho.ex
  obtain ⟨u, q, z⟩ := ha.ex
  exact ⟨_, pe_bmW pa slot hty hm p q hbase (by exact hfew) hline (by exact hs) (by exact hplain), esnd_look lt s z h2⟩
/-- the first place of an int in a list of ints -/
def findI (x : Int) : List Int → Nat → Option Nat
  | [], _ => none
  | y :: r, n => if y = x then some n else findI x r (n + 1)
theorem findI_spec : ∀ {r : List Int} {n j : Nat} {x : Int}, findI x r n = some j → n ≤ j ∧ r[j - n]? = some x ∧ ∀ m, m < j - n → ∃ z, r[m]? = some z ∧ z ≠ x
  | [], _, _, _, h => by cases h
  | y :: r, n, j, x, h => by
    unfold findI at h
    by_cases e : y = x
    · rw [if_pos e] at h
      cases h
      refine ⟨Nat.le_refl _, by rw [Nat.sub_self, e]; rfl, fun m hm => by omega⟩
    · rw [if_neg e] at h
      obtain ⟨h1, h2, h3⟩ := findI_spec h
      have ej : j - n = (j - (n + 1)) + 1 := by omega
      refine ⟨by omega, by rw [ej, List.getElem?_cons_succ]; exact h2, fun m hm => ?_⟩
      cases m with
      | zero => exact ⟨y, rfl, e⟩
      | succ m => 
        obtain ⟨z, hz, hne⟩ := h3 m (by omega)
        exact ⟨z, by rw [List.getElem?_cons_succ]; exact hz, hne⟩
def oIndex : List O → Option O
  | [a, b] => match (lstF a).bind dInts, asI b with
    | some ns, some x => (findI x ns 0).map fun n => .d (.int n)
    | _, _ => none
  | _ => none
theorem s_index : LookS K (rIndex K) oIndex := by
  intro Γ σ e τ stk G H v o vs os z Q rr hv ha hf k
  match ha with
  | .nil => cases hf
  | .cons _ (.cons _ _) => cases hf
  | @OAll.cons _ _ _ w b _ _ hb .nil =>
    cases e1 : lstF o with
    | none => simp [oIndex, e1] at hf
    | some xs =>
      cases e2 : dInts xs with
      | none => simp [oIndex, e1, e2] at hf
      | some ns =>
        cases e3 : asI b with
        | none => simp [oIndex, e1, e2, e3] at hf
        | some x =>
          cases e4 : findI x ns 0 with
          | none => simp [oIndex, e1, e2, e3, e4] at hf
          | some n =>
            simp [oIndex, e1, e2, e3, e4] at hf
            subst hf
            obtain rfl := orep_int hb e3
            obtain ⟨a, ws, rfl, sq, rp⟩ := lstF_of rr.wd.sub hv e1
            obtain rfl := dInts_of rp e2
            obtain ⟨h1, h2, h3⟩ := findI_spec e4
            rw [Nat.sub_zero] at h2 h3
            refine ⟨a, ns.map V.int, .int x, n, .int x, rfl, rfl, sq, rfl, ?_, ?_, ?_, fun m z' hm hz => ?_, k _ G H (rr.pushD (.int _))⟩
            · rw [List.all_eq_true]
              intro y hy
              obtain ⟨q, _, rfl⟩ := List.mem_map.mp hy
              rfl
            · rw [List.getElem?_map, h2]
              rfl
            · show (x == x) = true
              simp
            · obtain ⟨y, hy, hne⟩ := h3 m hm
              rw [List.getElem?_map, hy] at hz
              cases hz
              show (y == x) = false
              simpa using hne
end
end Dn
end
section
set_option Elab.async false
set_option linter.all false
set_option maxRecDepth 100000
set_option maxHeartbeats 4000000
/-! Dn15: what is left: recursion's ground, targets of comprehensions, zip, list(range(..)), reversed made. -/
namespace Dn
open PySem PySem.Spec L2
open PyProof.Rows hiding St
section
variable {X : Cx} {W : WX} {np : Asm} {K : PySem.W.Frag} {mg : Str → Option Value}
theorem fnok_fail {P : Program} {w : World} {base : Heap} {CX : CXT} {k : Nat} {f : Addr} {fd : FuncData} {ps : List Str} : FnOk P w K mg base CX k f fd ps (FP K mg ps.length fun _ => .fail) :=
  ⟨fun vs H Q E h => h.1, fun A outer s H args us vs Q E hr he hb hv hs => by
    obtain ⟨_, os, fp, G, _, _, _, q⟩ := hs
    exact q.elim⟩
theorem gssnd_nil : GsSnd K np gNil [] := fun Γ σ e e1 τ stk G H vs xs Q hp r rx h k => by
  cases rx with
  | nil =>
    cases h
    exact ⟨rfl, k σ r⟩
  | cons => cases h
theorem gsnd_t {t : TGs} {gs : List MG} {n : Nat} (s : GsSnd K np t gs) (hn : n = gs.length := by rfl) : GSnd K np (gTup K n t) (gT gs) := by
  intro Γ σ e e1 τ stk G H v x Q hp r rx h k
  cases rx with
  | @tup a vs xs hq rx =>
    exact ⟨a, vs, rfl, r.wd.sub.sqT hq, by rw [hn]; exact rx.length.trans (gsT_len h), s Γ σ e e1 τ stk G H vs xs Q hp r rx h k⟩
  | _ => cases h
/-! ### list(range(n)) -/
def mlistRg (m : ME) : ME := fun env => match m env with
  | .ok o e => match asI o with
    | some n => if rgOk n && decide (n.toNat ≤ line) then .ok (.l ((rgD 0 n.toNat).map O.d)) e else .fail
    | none => .fail
  | .exc x e => .exc x e
  | .fail => .fail
theorem rgV_reps {G : Hp} (n : Int) : Reps K G (rgV 0 n) (rgD 0 n.toNat) := by
  have aux : ∀ l : List Nat, Reps K G (l.map fun (i : Nat) => V.int (0 + (i : Nat))) (l.map fun (i : Nat) => D.int (0 + (i : Nat))) := by
    intro l
    induction l with
    | nil => exact .nil
    | cons x r ih => exact .cons (.int _) ih
  have := aux (List.range n.toNat)
  unfold rgV rgD
  rw [Int.sub_zero]
  exact this
theorem de_listRg {e : Expr} {m : ME} {p p2 pos pos2 : Pos} (h1 : X.mg "list" = none) (h2 : X.mg "range" = none) (h : DE X W np e m) (hc : X.calm = true := by rfl) (hg : Gl X "list" := by rfl) (hg2 : Gl X "range" := by rfl) (hs : starEach [e] X.env = (false, eval e X.env) :: starEach [] X.env := by rfl)
    (hs2 : starEach [.Call (.Name "range" p2) [e] [] pos2] X.env = (false, eval (.Call (.Name "range" p2) [e] [] pos2) X.env) :: starEach [] X.env := by rfl) : DE X W np (.Call (.Name "list" p) [.Call (.Name "range" p2) [e] [] pos2] [] pos) (mlistRg m) := by
  obtain ⟨t, pe, s⟩ := h.ex
  refine ⟨_, pe_listRg hc hg h1 (prg_1 hg2 h2 pe hs) hs2, fun Γ σ env τ stk G H Q hp r h => s Γ σ env τ stk G H _ hp r ?_⟩
  unfold mlistRg at h
  cases q : m env with
  | ok o e =>
    simp only [q] at h
    intro v G' H' r'
    cases ea : asI o with
    | none => simp only [ea] at h; exact False.elim h
    | some n =>
      simp only [ea] at h
      obtain rfl := orep_int r'.top ea
      split at h
      · rename_i hc
        obtain ⟨b1, b2⟩ := Bool.and_eq_true_iff.mp hc
        obtain ⟨c1, c2⟩ := of_decide_eq_true (p := -(2 ^ 62) ≤ n ∧ n < 2 ^ 62) b1
        have c3 : n.toNat ≤ 16777216 := of_decide_eq_true b2
        refine ⟨n, rfl, ⟨by decide, by decide, c1, c2, by rw [Int.sub_zero]; exact c3⟩, fun q hq => ?_⟩
        exact h _ _ _ (r'.pop.mkL (rgV_reps n) hq)
      · exact False.elim h
  | exc x e =>
    simp only [q] at h
    exact h
  | fail =>
    simp only [q] at h
    exact h
/-! ### zip -/
def zipD : List D → List D → List D
  | x :: xs, y :: ys => .tup [x, y] :: zipD xs ys
  | _, _ => []
theorem zipD_get : ∀ (xs ys : List D) (i : Nat) (z : D), (zipD xs ys)[i]? = some z → ∃ x y, xs[i]? = some x ∧ ys[i]? = some y ∧ z = .tup [x, y]
  | [], _, _, _, h => by simp [zipD] at h
  | _ :: _, [], _, _, h => by simp [zipD] at h
  | x :: xs, y :: ys, 0, z, h => by
    simp [zipD] at h
    exact ⟨x, y, rfl, rfl, h.symm⟩
  | x :: xs, y :: ys, i + 1, z, h => by
    obtain ⟨a, b, h1, h2, h3⟩ := zipD_get xs ys i z (by simpa [zipD] using h)
    exact ⟨a, b, by simpa using h1, by simpa using h2, h3⟩
theorem zipD_len : ∀ (xs ys : List D), (zipD xs ys).length = min xs.length ys.length
  | [], _ => by simp [zipD]
  | _ :: _, [] => by simp [zipD]
  | x :: xs, y :: ys => by
    simp only [zipD, List.length_cons, zipD_len xs ys]
    omega
def zipP (x y : D) : Option (List D) := match itT x, itT y with
  | some xs, some ys => some (zipD xs ys)
  | _, _ => match itL x, itL y with
    | some xs, some ys => some (zipD xs ys)
    | _, _ => none
def zipO (os : List O) : Option (List D) := match os with
  | [a, b] => zipP (frz a) (frz b)
  | _ => none
def mZip (ks : List AK) : Env → Rs (List D) := fun env => match evalA ks env with
  | .ok cs e => match (allS cs).bind zipO with
    | some xs => .ok xs e
    | none => .fail
  | .exc x e => .exc x e
  | .fail => .fail
theorem wk_zip {G0 : Hp} {J : It} {n : Nat} {Gd : Hp → Prop} {vs ws : List V} {xs ys : List D} (w : Walk J n Gd (YPair (fun i => vs[i]?) (fun i => ws[i]?))) (rp : Reps K G0 vs xs) (rq : Reps K G0 ws ys) (hn : n = min vs.length ws.length) (hg : ∀ G H, Sub G0 G → Sub G H → Gd H) : Wk K G0 J (zipD xs ys) := by
  intro G H s1 s2
  have g := hg G H s1 s2
  have hl : (zipD xs ys).length = n := by rw [zipD_len, ← rp.length, ← rq.length, hn]
  refine ⟨fun i hi => w.goes i H (by omega) g, by rw [hl]; exact w.stops H g, fun i x hx v H' y => ?_⟩
  have hi : i < (zipD xs ys).length := (List.getElem?_eq_some_iff.mp hx).1
  obtain ⟨T, x1, y1, e1, e2, e3, e4, e5⟩ := w.yields i H v H' (by omega) g y
  obtain ⟨a, b, h1, h2, h3⟩ := zipD_get xs ys i x hx
  obtain ⟨v1, g1, r1⟩ := rp.get h1
  obtain ⟨v2, g2, r2⟩ := rq.get h2
  have q1 : some x1 = some v1 := e4.symm.trans g1
  have q2 : some y1 = some v2 := e5.symm.trans g2
  cases q1
  cases q2
  exact .inr ⟨T, _, _, e1, e2, e3, h3, .cons (r1.mono s1) (.cons (r2.mono s1) .nil)⟩
theorem walk_zipT {a b : Addr} {xs ys : List V} {n : Nat} (hn : n = min xs.length ys.length) : Walk (RZ.ItzT K a b) n (fun H => SqT K H a xs ∧ SqT K H b ys) (YPair (fun i => xs[i]?) (fun i => ys[i]?)) := by
  subst hn
  refine ⟨fun i _ hi q => ?_, fun _ q => ⟨xs, ys, q.1, q.2, by omega⟩, fun i H v H' _ q y => ?_⟩
  · have h1 : i < xs.length := by omega
    have h2 : i < ys.length := by omega
    exact ⟨xs, ys, xs[i], ys[i], q.1, q.2, by simp [h1], by simp [h2]⟩
  · obtain ⟨T, x, z, h1, h2, h3, h4, h5⟩ := y
    exact ⟨T, x, z, h1, h2, h3, h4 xs q.1, h5 ys q.2⟩
theorem zip_two {G : Hp} {vs : List V} {os : List O} {zs : List D} (r : Reps K G vs (frzs os)) (h : zipO os = some zs) : ∃ x y v w, vs = [v, w] ∧ Rep K G v x ∧ Rep K G w y ∧ zipP x y = some zs := by
  cases os with
  | nil => cases h
  | cons a os =>
    cases os with
    | nil => cases h
    | cons b os =>
      cases os with
      | cons => cases h
      | nil =>
        cases r with
        | cons r1 r =>
          cases r with
          | cons r2 r =>
            cases r
            exact ⟨_, _, _, _, rfl, r1, r2, h⟩
theorem zipP_of {x y : D} {zs : List D} (h : zipP x y = some zs) : (∃ xs ys, itT x = some xs ∧ itT y = some ys ∧ zs = zipD xs ys) ∨ (∃ xs ys, itL x = some xs ∧ itL y = some ys ∧ zs = zipD xs ys) := by
  unfold zipP at h
  cases t1 : itT x with
  | some xs =>
    cases t2 : itT y with
    | some ys =>
      simp only [t1, t2] at h
      cases h
      exact .inl ⟨xs, ys, rfl, rfl, rfl⟩
    | none =>
      simp only [t1, t2] at h
      cases t3 : itL x with
      | none => simp only [t3] at h; cases h
      | some us =>
        cases t4 : itL y with
        | none => simp only [t3, t4] at h; cases h
        | some ws =>
          simp only [t3, t4] at h
          cases h
          exact .inr ⟨us, ws, rfl, rfl, rfl⟩
  | none =>
    simp only [t1] at h
    cases t3 : itL x with
    | none => simp only [t3] at h; cases h
    | some us =>
      cases t4 : itL y with
      | none => simp only [t3, t4] at h; cases h
      | some ws =>
        simp only [t3, t4] at h
        cases h
        exact .inr ⟨us, ws, rfl, rfl, rfl⟩
theorem di_zip {e e2 : Expr} {es : List Expr} {kk : Nat} {k1 k2 : AK} {p pos tpos : Pos} (hm : X.mg "zip" = none) (h : DA X W np [e, e2] [k1, k2]) (hg : Gl X "zip" := by rfl) (hs : starEach [e, e2] X.env = (false, eval e X.env) :: starEach [e2] X.env := by rfl) (hpl : (backTo pos (starEach [e2] X.env)).any (·.1) = false := by rfl) :
    DI X W np (.Tuple es kk tpos) (.Call (.Name "zip" p) [e, e2] [] pos) (mZip [k1, k2]) := by
  obtain ⟨t, pa, s⟩ := h.ex
  refine ⟨_, RZ.pi_zipA hg hm pa hs hpl, fun Γ σ env τ stk G H Q hp r h => s Γ σ env τ stk G H _ hp r ?_⟩
  unfold mZip at h
  cases e1 : evalA [k1, k2] env with
  | ok cs e =>
    simp only [e1] at h
    intro vs G1 H1 hl r1 n1
    cases e2 : (allS cs).bind zipO with
    | none => simp only [e2] at h; exact False.elim h
    | some zs =>
      simp only [e2] at h
      cases e3 : allS cs with
      | none => rw [e3] at e2; cases e2
      | some os =>
        rw [e3] at e2
        replace e2 : zipO os = some zs := e2
        have ec := allS_of e3
        subst ec
        have hl' : vs.length = os.length := by
          rw [← hl, List.length_map]
        obtain ⟨G2, r2, q2⟩ := r1.frzN hl'
        obtain ⟨x, y, v, w, ev, ra, rb, ez⟩ := zip_two q2 e2
        subst ev
        rcases zipP_of ez with ⟨xs, ys, t1, t2, e4⟩ | ⟨xs, ys, t1, t2, e4⟩
        · subst e4
          obtain ⟨a', us, rfl, sq, rp⟩ := itT_of ra t1
          obtain ⟨b', ws, rfl, sq', rp'⟩ := itT_of rb t2
          exact ⟨a', b', us, ws, rfl, .inr ⟨r2.wd.sub.sqT sq, r2.wd.sub.sqT sq', h _ G2 H1 r2 (wk_zip (walk_zipT rfl) rp rp' rfl fun G H s1 s2 => ⟨s2.sqT (s1.sqT sq), s2.sqT (s1.sqT sq')⟩)⟩⟩
        · subst e4
          obtain ⟨a', us, rfl, sq, rp⟩ := itL_of ra t1
          obtain ⟨b', ws, rfl, sq', rp'⟩ := itL_of rb t2
          exact ⟨a', b', us, ws, rfl, .inl ⟨r2.wd.sub.sqL sq, r2.wd.sub.sqL sq', h _ G2 H1 r2 (wk_zip (walk_zip rfl) rp rp' rfl fun G H s1 s2 => ⟨s2.sqL (s1.sqL sq), s2.sqL (s1.sqL sq')⟩)⟩⟩
  | exc x e =>
    simp only [e1] at h
    exact h
  | fail =>
    simp only [e1] at h
    exact h
end
end Dn
end
section
set_option Elab.async false
set_option linter.all false
set_option maxRecDepth 100000
set_option maxHeartbeats 4000000
/-! Dn16: tests that are comparisons, and, or. -/
namespace Dn
open PySem PySem.Spec L2
open PyProof.Rows hiding St
section
variable {X : Cx} {W : WX} {np : Asm} {K : PySem.W.Frag} {mg : Str → Option Value}
theorem tsnd_val {t : TE} {m : ME} (s : ESnd K mg W np t m) : TSnd K mg W np (tTest t) (mB m) := fun Γ σ env τ stk G H Q hp r h => s Γ σ env τ stk G H _ hp r (h.mB.imp fun o e ⟨c, eo, q⟩ v G' H' r' => by
  subst eo
  obtain rfl := r'.topB
  exact ⟨c, rfl, q G' H' r'.pop⟩)
theorem dt_cmp {op : CmpOp} {r : R2} {f : List O → Option O} {a b : Expr} {pos : Pos} {k1 k2 : AK} (ho : OpR X (compareOp op) r) (hs : OpS X.K (r2 r) f) (ha : DK X W np a k1) (hb : DK X W np b k2) (hm : behindInMarks op b = false := by first | exact nobehind _ (by decide) (by decide) | rfl) : DT X W np (.Compare a [op] [b] pos) (mB (mOp f [k1, k2])) := by
  obtain ⟨ta, p, s⟩ := ha.ex
  obtain ⟨tb, q, u⟩ := hb.ex
  exact ⟨_, pt_cmpR ho p q hm, tsnd_val (esnd_op2 s u hs)⟩
structure DW (X : Cx) (W : WX) (np : Asm) (e : Expr) (m : Env → Rs Bool) : Prop where
  ex : ∃ t, PW X e t ∧ TSnd X.K X.mg W np t m
def mTAnd (a b : Env → Rs Bool) : Env → Rs Bool := fun e => match a e with
  | .ok c e1 => if c then b e1 else .ok false e1
  | .exc x e => .exc x e
  | .fail => .fail
def mTOr (a b : Env → Rs Bool) : Env → Rs Bool := fun e => match a e with
  | .ok c e1 => if c then .ok true e1 else b e1
  | .exc x e => .exc x e
  | .fail => .fail
theorem dw_and1 {a : Expr} {pos : Pos} {m : Env → Rs Bool} (h : DT X W np a m) : DW X W np (.BoolOp .And [a] pos) m := by
  obtain ⟨t, p, s⟩ := h.ex
  exact ⟨_, pw_and1 p, s⟩
theorem dw_or1 {a : Expr} {pos : Pos} {m : Env → Rs Bool} (h : DT X W np a m) : DW X W np (.BoolOp .Or [a] pos) m := by
  obtain ⟨t, p, s⟩ := h.ex
  exact ⟨_, pw_or1 p, s⟩
theorem dw_and {a b : Expr} {rest : List Expr} {pos : Pos} {m n : Env → Rs Bool} (h : DT X W np a m) (g : DW X W np (.BoolOp .And (b :: rest) pos) n) : DW X W np (.BoolOp .And (a :: b :: rest) pos) (mTAnd m n) := by
  obtain ⟨t, p, s⟩ := h.ex
  obtain ⟨t', p', s'⟩ := g.ex
  refine ⟨_, pw_and p p', fun Γ σ env τ stk G H Q hp r h => s Γ σ env τ stk G H _ hp r ?_⟩
  unfold mTAnd at h
  cases q : m env with
  | ok c e =>
    rw [q] at h
    intro G' H' r'
    cases c with
    | true =>
      rw [if_pos rfl]
      exact s' Γ σ e τ stk G' H' Q hp r' h
    | false =>
      rw [if_neg Bool.false_ne_true]
      exact h G' H' r'
  | exc x e =>
    rw [q] at h
    exact h
  | fail =>
    rw [q] at h
    exact h
theorem dw_or {a b : Expr} {rest : List Expr} {pos : Pos} {m n : Env → Rs Bool} (h : DT X W np a m) (g : DW X W np (.BoolOp .Or (b :: rest) pos) n) : DW X W np (.BoolOp .Or (a :: b :: rest) pos) (mTOr m n) := by
  obtain ⟨t, p, s⟩ := h.ex
  obtain ⟨t', p', s'⟩ := g.ex
  refine ⟨_, pw_or p p', fun Γ σ env τ stk G H Q hp r h => s Γ σ env τ stk G H _ hp r ?_⟩
  unfold mTOr at h
  cases q : m env with
  | ok c e =>
    rw [q] at h
    intro G' H' r'
    cases c with
    | true =>
      rw [if_pos rfl]
      exact h G' H' r'
    | false =>
      rw [if_neg Bool.false_ne_true]
      exact s' Γ σ e τ stk G' H' Q hp r' h
  | exc x e =>
    rw [q] at h
    exact h
  | fail =>
    rw [q] at h
    exact h
theorem dt_w {a : Expr} {m : Env → Rs Bool} (h : DW X W np a m) : DT X W np a m := by
  obtain ⟨t, p, s⟩ := h.ex
  exact ⟨_, p.pt, s⟩
end
end Dn
end
section
set_option Elab.async false
set_option linter.all false
set_option maxRecDepth 100000
set_option maxHeartbeats 4000000
/-! Dn17: enumerate over a tuple. -/
namespace Dn
open PySem PySem.Spec L2
open PyProof.Rows hiding St
open PySem.Builtin in
/-- enumerate(v) makes its two cells -/
theorem meets_enum1 {v : Value} {o : Obj} {H : Heap → Prop} (B : Begins v o H) :
    Meets (Builtin.«enumerate.__new__» ⟨[.type "enumerate", v], []⟩) (fun _ R s => H s.heap ∧ R (.ok (.ret (.ref (s.heap.push o).objs.size))) { s with heap := (s.heap.push o).push { cls := .type "enumerate", data := .fields #[.none, .bool false, .ref s.heap.objs.size, rawInt 0, .none, .none] } }) :=
  .of_wp fun prog w A R s hs => by
    obtain ⟨hp, g, d, tk, os⟩ := s
    obtain ⟨hH, hR⟩ := hs
    have sub1 := sub_enumerate
    have it1 : ∀ {A' : Around} {E : Value → Shared → Prop} {Q : Value → Shared → Prop}, Q (.ref hp.objs.size) ⟨hp.push o, g, d, tk, os⟩ → wpAny (model prog w) A' (pyIter v) Q E ⟨hp, g, d, tk, os⟩ :=
      fun q => B.iter prog w _ _ ⟨hp, g, d, tk, os⟩ _ hH q
    wp_walk using it1
    refine wpAny_stack_any (fun stk => wpAny_pure ?_)
    split
    · rename_i cl _ _ _ _ _
      cases (cl == Value.type "enumerate") <;> (wp_walk using it1; exact ⟨_, rfl, hR⟩)
    · wp_walk using it1
      exact ⟨_, rfl, hR⟩
theorem call_enum1 {prog : Program} {w : World} {A : Around} {E : Value → Shared → Prop} {s : Shared} {v : Value} {o : Obj} {H : Heap → Prop} {Q : Value → Shared → Prop} (B : Begins v o H) (h1 : H s.heap)
    (hq : ∀ h', IsEnum h' (s.heap.objs.size + 1) s.heap.objs.size 0 .none → h'.get? s.heap.objs.size = some o → (∀ b o, s.heap.get? b = some o → h'.get? b = some o) → Q (.ref (s.heap.objs.size + 1)) { s with heap := h' }) :
    wpAny (model prog w) A (call (.type "enumerate") [v]) Q E s := by
  refine callType_new F.called_enumerate (by decide) (F.typeCall_enumerate_1 _) (F.newCall_enumerate_1 _) (fun ob => F.args_object_init_2 ob _) F.entry_enumerate_new (meets_enum1 B) ⟨h1, ?_⟩
  have sz : (s.heap.push o).objs.size = s.heap.objs.size + 1 := Heap.size_push ..
  show _ ∧ _
  rw [sz]
  have new : IsEnum ((s.heap.push o).push { cls := .type "enumerate", data := .fields #[.none, .bool false, .ref s.heap.objs.size, rawInt 0, .none, .none] }) (s.heap.objs.size + 1) s.heap.objs.size 0 .none := by
    have z := Heap.get?_push_size (s.heap.push o) (o := { cls := .type "enumerate", data := .fields #[.none, .bool false, .ref s.heap.objs.size, rawInt 0, .none, .none] }) rfl
    rw [sz] at z
    exact z
  exact ⟨⟨_, new, rfl⟩, hq _ new (Heap.get?_push_of_some _ (Heap.get?_push_size _ B.free)) fun b o' x => Heap.get?_push_of_some _ (Heap.get?_push_of_some _ x)⟩
/-- the tuple at a, each item in a new pair -/
def IteT (K : PySem.W.Frag) (a : Addr) : It where
  go := fun i H => ∃ (xs : List V) (x : V), SqT K H a xs ∧ xs[i]? = some x
  yld := fun i H v H' => ∃ T x, v = .ref T ∧ H T = none ∧ H' = upd H T (.tup [.int (i : Nat), x]) ∧ ∀ xs, SqT K H a xs → xs[i]? = some x
  stop := fun i H => ∃ xs : List V, SqT K H a xs ∧ xs.length ≤ i
theorem enum_apart {h : Heap} {e it a : Addr} {c : Int} {old : Value} {items : Array Value} (he : IsEnum h e it c old) (ht : IsTup h a items) : e ≠ a := fun z => by
  obtain ⟨o, ho, hc, _⟩ := ht
  have he' : h.get? e = some _ := he
  rw [z, ho] at he'
  have e1 := Option.some.inj he'
  rw [e1] at hc
  exact absurd (Value.type.inj hc : "enumerate" = "tuple") (by decide)
theorem turn_enumT {P : Program} {w : World} {K : PySem.W.Frag} {elts : List Expr} {kk : Nat} {tpos : Pos} (a e it : Addr) (hai : a ≠ it) :
    Turn P w K (.Tuple elts kk tpos) (IteT K a) [e, it] e (fun i h => (∃ old, IsEnum h e it ((i : Nat) : Int) old) ∧ h.IsTupleIter it a i ∧ e ≠ it) where
  mem := List.mem_cons_self
  obj := fun i h st b hb => by
    obtain ⟨⟨old, he⟩, ⟨o, ho, hc, hd⟩, _⟩ := st
    rcases List.mem_cons.mp hb with z | z
    · subst z
      exact ⟨_, he, fun v q => nomatch q⟩
    · have z' := List.mem_singleton.mp z
      subst z'
      exact ⟨o, ho, fun v q => by rw [hd] at q; cases q⟩
  keep := fun i h h' ⟨⟨old, he⟩, hi, hne⟩ k => ⟨⟨old, k e List.mem_cons_self _ he⟩, hi.at fun o q => k it (List.mem_cons_of_mem _ (List.mem_singleton.mpr rfl)) o q, hne⟩
  item := by
    intro X hP hw hK hc i pins s σ H E I hf st hg
    subst hP hw hK
    obtain ⟨⟨old, he⟩, hit, hne⟩ := st
    obtain ⟨xs, x, hq, hx⟩ := hg
    obtain ⟨its, rv, p, hz⟩ := I.tuple hq
    obtain ⟨u, hu, ru⟩ := rv.get hx
    have hel : e < s.heap.objs.size := Heap.lt_size he
    have hil : it < s.heap.objs.size := by
      obtain ⟨_, q, _⟩ := hit
      exact Heap.lt_size q
    have hea := enum_apart he p
    have hin : i < its.toArray.size := by
      have z := (List.getElem?_eq_some_iff.mp hu).1
      simpa using z
    have D := Draws.tuple (prog := X.prog) (w := X.w) (A := X.A.in1) (I.ok.hd hc) it a hai its.toArray
    refine wpAny_pyNext_enum_itemC D he ⟨hit, p⟩ hin hne (by simp [hne, hea]) fun u' h' tk hu' ho hst hT hsz hk => ?_
    have eu : u' = u := by
      have hu2 : its.toArray[i]? = some u' := hu'
      rw [List.getElem?_toArray, hu] at hu2
      exact (Option.some.inj hu2).symm
    subst eu
    refine ⟨_, rfl, wpAny_letOwnedTupleGo_enum (s := { s with heap := h', toks := tk + 1 }) ho fun h'' he' sb => ?_⟩
    have hT2 := (sb.2 _ (Nat.ne_of_gt hel)).trans hT
    have new : ObjOk X.prog X.w (upd H s.heap.objs.size (.tup [.int (i : Nat), x])) h'' s.heap.objs.size (.tup [.int (i : Nat), x]) :=
      ⟨by show 2 ≤ sizeLine; rw [sizeLine_eq]; decide, [.int i tk, u'], .cons ⟨_, rfl⟩ (.cons ru .nil), ⟨_, hT2, rfl, _, rfl⟩⟩
    have J : Inv X pins σ (upd H s.heap.objs.size (.tup [.int (i : Nat), x])) { s with heap := h'', toks := tk + 1 } :=
      I.turnedNew (ch := [e, it]) (fun b ob hb q => (sb.2 b fun z => hb (by simp [z])).trans (hk b ob (fun z => hb (by simp [z])) (fun z => hb (by simp [z])) q)) hf (Nat.le_refl _) new
    refine ⟨.ref s.heap.objs.size, _, J, rfl, ⟨_, x, rfl, I.hok.fresh (Nat.le_refl _), rfl, fun ys hy => by rw [I.tuple_inj hy hq]; exact hx⟩, ⟨⟨u', ?_⟩, hst.1.at fun o q => (sb.2 it hne.symm).trans q, hne⟩, fun b hb => ?_⟩
    · rw [show ((i + 1 : Nat) : Int) = (i : Int) + 1 by omega]
      exact he'
    · have hb' : b < s.heap.objs.size := by
        rcases List.mem_cons.mp hb with z | z
        · rw [z]; exact hel
        · rw [List.mem_singleton.mp z]; exact hil
      rw [upd_ne (Nat.ne_of_lt hb')]
      exact (hf b hb).1
  done := by
    intro X hP hw hK hc i pins s σ H E I hf st hg
    subst hP hw hK
    obtain ⟨⟨old, he⟩, hit, hne⟩ := st
    obtain ⟨xs, hq, hx⟩ := hg
    obtain ⟨its, rv, p, hz⟩ := I.tuple hq
    obtain ⟨f0, f1, f2, f3, f4, f5⟩ := hf it (List.mem_cons_of_mem _ (List.mem_singleton.mpr rfl))
    have hl := rv.length
    have hnone : its.toArray[i]? = none := by
      rw [List.getElem?_toArray]
      exact List.getElem?_eq_none (by omega)
    have D : Draws X.prog X.w X.A.in1 it [it, a] 0 (fun _ _ => False) (fun _ h => h.IsTupleIter it a i ∧ h.IsTuple a its.toArray) := {
      live := fun _ _ st => let ⟨o, ho, _⟩ := st.1; ⟨o, ho⟩
      frame := fun _ _ _ st hk => ⟨st.1.at fun o e => hk it List.mem_cons_self o e, st.2.at fun o e => hk a (List.mem_cons_of_mem _ List.mem_cons_self) o e⟩
      item := fun j s Q E hj => absurd hj (Nat.not_lt_zero _)
      done := fun s Q E st hE => wpAny_nextOf_tuple_end (A := X.A.in1) (I.ok.hd hc) st.1 st.2 hnone hE }
    exact wpAny_pyNext_enum_endD D he ⟨hit, p⟩ fun h' eb => ⟨rfl, I.turned (t' := s.toks) (fun b o hb q => eb b o hb q) f0 f1 f3 f4 f5⟩
  self := fun A i s Q E st h => wpAny_pyIter_enum st.1.choose_spec h
def iEnumT (K : PySem.W.Frag) (ta : TA) : TI := fun σ H R => ta σ H fun vs H1 => ∃ a xs, vs = [.ref a] ∧ SqT K H1 a xs ∧ R (IteT K a) H1
theorem pi_enumT {X : Cx} {e : Expr} {ta : TA} {p pos tpos : Pos} {elts : List Expr} {kk : Nat} (hg : Gl X "enumerate") (hm : X.mg "enumerate" = none) (ha : PA X [e] ta) (hs : starEach [e] X.env = [(false, eval e X.env)] := by rfl) :
    PI X (.Tuple elts kk tpos) (.Call (.Name "enumerate" p) [e] [] pos) (iEnumT X.K ta) := by
  refine ⟨fun pins s σ H R I h => ?_⟩
  refine Call_ (ld_blt I hg hm boot_enumerate (PyProof.Rows.callWith_type1 (thn (ha.run pos pins s σ H _ I h) fun us s1 ⟨vs, H1, I1, r1, q1⟩ => ?_) hs rfl))
  obtain ⟨a, xs, ex, hq, q⟩ := q1
  subst ex
  cases r1 with
  | cons r rr =>
    cases rr
    cases r
    obtain ⟨its, rv, p', hz⟩ := I1.tuple hq
    refine call_enum1 (begins_tuple a its.toArray) p' fun h' he hit hk => wpAny_pyIter_enum he ?_
    have J : Inv X pins σ H1 { s1 with heap := h' } := I1.kept (t' := s1.toks) hk
    have hai : a ≠ s1.heap.objs.size := Nat.ne_of_lt p'.lt
    refine ⟨s1.heap.objs.size + 1, [s1.heap.objs.size + 1, s1.heap.objs.size], _, _, H1, rfl, J, turn_enumT a (s1.heap.objs.size + 1) s1.heap.objs.size hai, ⟨⟨.none, he⟩, ⟨_, hit, rfl, rfl⟩, Nat.succ_ne_self _⟩, fun b hb => ?_, q⟩
    have le : s1.heap.objs.size ≤ b := by
      rcases List.mem_cons.mp hb with z | z
      · rw [z]; exact Nat.le_add_right _ _
      · rw [List.mem_singleton.mp z]; exact Nat.le_refl _
    exact I1.fpOk le (I1.hok.fresh le)
section
variable {X : Cx} {W : WX} {np : Asm} {K : PySem.W.Frag} {mg : Str → Option Value}
theorem walk_enumT {a : Addr} {xs : List V} : Walk (IteT K a) xs.length (fun H => SqT K H a xs) (YPair (fun i => some (.int (i : Nat))) (fun i => xs[i]?)) := by
  refine ⟨fun i _ hi q => ⟨xs, xs[i], q, by simp [hi]⟩, fun _ q => ⟨xs, q, Nat.le_refl _⟩, fun i H v H' _ q y => ?_⟩
  obtain ⟨T, x, h1, h2, h3, h4⟩ := y
  exact ⟨T, .int (i : Nat), x, h1, h2, h3, rfl, h4 xs q⟩
def itEn : D → Option (List D)
  | .tup xs => some (numD 0 xs)
  | .lst xs => some (numD 0 xs)
  | .scr xs => some (numD 0 xs)
  | _ => none
theorem di_enum {e : Expr} {es : List Expr} {kk : Nat} {m : ME} {p pos tpos : Pos} (hm : X.mg "enumerate" = none) (h : DE X W np e m) (hg : Gl X "enumerate" := by rfl) (hs : starEach [e] X.env = [(false, eval e X.env)] := by rfl) (hs' : starEach [e] X.env = (false, eval e X.env) :: starEach [] X.env := by rfl) : DI X W np (.Tuple es kk tpos) (.Call (.Name "enumerate" p) [e] [] pos) (mIt itEn m) := by
  obtain ⟨tl, pl, sl⟩ := (di_enumL (es := es) (kk := kk) (p := p) (pos := pos) (tpos := tpos) hm h hg hs hs').ex
  obtain ⟨t, p1, s⟩ := h.ex
  refine ⟨_, pi_or pl (pi_enumT hg hm (pa_cons p1 pa_nil hs') hs), fun Γ σ env τ stk G H Q hp r h => ?_⟩
  have left : RsQ X.K X.mg Γ W σ τ stk (fun xs e => ∀ J G' H', R X.K Γ σ e τ stk G' H' → Wk X.K G' J xs → Q J H') (mIt itE m env) → tl σ H Q := fun h => sl Γ σ env τ stk G H Q hp r h
  unfold mIt at h left
  cases q : m env with
  | ok o e =>
    simp only [q] at h left
    cases hd : frz o with
    | tup xs =>
      rw [hd] at h
      refine .inr (s Γ σ env τ stk G H _ hp r ?_)
      simp only [q]
      intro v G' H' r'
      obtain ⟨G2, r2⟩ := r'.frz
      have rd := r2.topD
      rw [hd] at rd
      obtain ⟨a, vs, rfl, sq, rp⟩ := itT_of rd rfl
      exact ⟨a, vs, rfl, r2.wd.sub.sqT sq, h _ G2 H' r2.pop (wk_num walk_enumT rp fun G H s1 s2 => s2.sqT (s1.sqT sq))⟩
    | lst xs =>
      rw [hd] at h left
      exact .inl (left h)
    | scr xs =>
      rw [hd] at h left
      exact .inl (left h)
    | _ =>
      rw [hd] at h
      exact False.elim h
  | exc x e =>
    simp only [q] at h left
    exact .inl (left h)
  | fail =>
    simp only [q] at h
    exact False.elim h
end
end Dn
end
section
set_option Elab.async false
set_option linter.all false
set_option maxRecDepth 100000
set_option maxHeartbeats 4000000
/-! Dn18: calls by keywords. -/
namespace Dn
open PySem PySem.Spec L2
open PyProof.Rows hiding St
section
variable {X : Cx} {W : WX} {np : Asm} {K : PySem.W.Frag} {mg : Str → Option Value}
structure DKw (X : Cx) (W : WX) (np : Asm) (kws : List Keyword) (ks : List AK) : Prop where
  ex : ∃ t, PK X kws t ∧ ASnd X.K X.mg W np t ks
theorem dkw_nil : DKw X W np [] [] := ⟨_, pk_nil, asnd_nil⟩
theorem dkw_cons {nm : Option Str} {e : Expr} {kpos : Pos} {kws : List Keyword} {k : AK} {ks : List AK} (h1 : DK X W np e k) (h2 : DKw X W np kws ks) : DKw X W np (⟨nm, e, kpos⟩ :: kws) (k :: ks) := by
  obtain ⟨t, p, s⟩ := h1.ex
  obtain ⟨u, q, z⟩ := h2.ex
  exact ⟨_, pk_cons p q, asnd_cons s z⟩
/-- the keywords ns in the parameters' own order -/
structure KwB (K : PySem.W.Frag) (fd : FuncData) (ps : List Str) : Prop where
  to : ∀ (s : Shared) (ws : List Value), K.In s.heap → ws.length = ps.length → BindsTo s fd ⟨[], ps.zip ws⟩ (ps.zip ws)
theorem run_kw {CX : CXT} {k : Nat} {f : Addr} {fd : FuncData} {ps : List Str} {sp : Sp} {E : L2.St → XK} {pins : List (Addr × Obj)} {σ : L2.St} {H : Hp} {s : Shared} {Q : VK} {ws : List Value} {zs : List V} (F : FnOk X.prog X.w X.K X.mg X.base CX k f fd ps sp) (hr : Room k X.A) (hb : KwB X.K fd ps) (hx : PassesAt CX X σ (E σ))
    (I : Inv X pins σ H s) (rz : Vals zs ws) (h : sp zs H Q (E σ)) : wpAny (model X.prog X.w) X.A (call (.ref f) [] (ps.zip ws)) (EP X pins σ Q) X.xe s := by
  have hl : ws.length = ps.length := by
    rw [← rz.length]
    exact F.len _ _ _ _ h
  refine wpAny_call (codeAny_mono (F.run X.A X.stack s H ⟨[], ps.zip ws⟩ ws zs Q (E σ) hr I.env0 (hb.to s ws I.kIn hl) rz h) fun r s' hq => ?_)
  cases r with
  | error e => exact hx pins H s e s' I hq
  | ok fl =>
    cases fl with
    | ret u => exact I.after hq
    | next => exact False.elim hq
    | brk => exact False.elim hq
    | cont => exact False.elim hq
theorem pe_kw {CX : CXT} {k : Nat} {f : Addr} {fd : FuncData} {ps : List Str} {sp : Sp} {E : L2.St → XK} {x : Str} {kws : List Keyword} {tk : TA} {p pos : Pos} (F : FnOk X.prog X.w X.K X.mg X.base CX k f fd ps sp) (hr : Room k X.A) (hg : Gl X x) (hm : X.mg x = some (.ref f)) (hk : PySem.W.keepIn X.K (.ref f) = true) (hb : KwB X.K fd ps) (hx : ∀ σ, PassesAt CX X σ (E σ)) (hkw : PK X kws tk)
    (hall : (backToKw pos (keywordEach kws X.env)).all (·.1.isSome) = true := by rfl) (hks : (backToKw pos (keywordEach kws X.env)).filterMap (·.1) = ps := by rfl) (hdb : (x == ("__debug__" : Str)) = false := by decide)
    (hpl : ((backTo pos (starEach [] X.env)).any (·.1) || (backToKw pos (keywordEach kws X.env)).any (·.1.isNone)) = false := by rfl) : PE X (.Call (.Name x p) [] kws pos) (fun σ H Q => tk σ H fun zs H1 => sp zs H1 Q (E σ)) := by
  refine ⟨fun pins s σ H Q I h => ?_⟩
  refine wpAny_Call_Name_kw (ld_glob I hg hm ?_ hdb)
  refine PySem.W.callWith_KW0 (h₀ := X.base) I.ok.mod.kin hk hall ?_ hpl
  refine thn (hkw.run pos pins s σ H _ I h) fun ws s2 ⟨zs, H2, I2, rz, q2⟩ => ⟨I2.kIn, ?_⟩
  rw [hks]
  exact run_kw F hr hb (hx σ) I2 rz q2
theorem de_callKW {k n : Nat} {g : Addr} {fd : FuncData} {ps : List Str} {f : List O → FR} {x : Str} {kws : List Keyword} {p pos : Pos} {ks : List AK} (F : FnOk X.prog X.w X.K X.mg X.base (L2N.CX X.prog X.w) k g fd ps (FP X.K X.mg n f)) (hr : Room k X.A) (hm : X.mg x = some (.ref g)) (hk : PySem.W.keepIn X.K (.ref g) = true) (hb : KwB X.K fd ps)
    (tk : L2N.Takes X W) (ha : DKw X W np kws ks) (hn : ks.length = n := by rfl) (hg : Gl X x := by rfl) (hall : (backToKw pos (keywordEach kws X.env)).all (·.1.isSome) = true := by rfl) (hks : (backToKw pos (keywordEach kws X.env)).filterMap (·.1) = ps := by rfl) (hdb : (x == ("__debug__" : Str)) = false := by decide)
    (hpl : ((backTo pos (starEach [] X.env)).any (·.1) || (backToKw pos (keywordEach kws X.env)).any (·.1.isNone)) = false := by rfl) : DE X W np (.Call (.Name x p) [] kws pos) (mCall f ks) := by
  obtain ⟨t, q, s⟩ := ha.ex
  exact ⟨_, pe_kw F hr hg hm hk hb (fun σ => L2N.passAt tk σ) q hall hks hdb hpl, esnd_call hn s⟩
end
end Dn
end
section
set_option Elab.async false
set_option linter.all false
set_option maxRecDepth 100000
set_option maxHeartbeats 4000000
/-! DnPick: a draw out of a state [greats, mixed]. -/
namespace Dn
open PySem PySem.Spec L2
open PyProof.Rows hiding St
/-- what is drawn, the greats and the mixed behind it -/
def pickZ (ns : List Int) (m many : Int) : Int × List Int × Int := match ns.getLast? with
  | some n => (n % many, if n / many > 0 then ns.dropLast ++ [n / many] else ns.dropLast, m)
  | none => ((((m * 40014 + 51001) % 2147483563) / 89 + ((m * 40014 + 51001) % 2147483563) / 6007 * (((m * 40014 + 51001) % 2147483563) / 60013)) % many, [], (m * 40014 + 51001) % 2147483563)
def stO (ns : List Int) (m : Int) : O := .l [.l (ns.map fun n => .d (.int n)), .d (.int m)]
def oInts? : List O → Option (List Int)
  | [] => some []
  | .d (.int i) :: r => (oInts? r).map (i :: ·)
  | _ :: _ => none
theorem oInts?_map : ∀ ns : List Int, oInts? (ns.map fun n => .d (.int n)) = some ns
  | [] => rfl
  | n :: r => by
    show (oInts? (r.map fun n => .d (.int n))).map (n :: ·) = some (n :: r)
    rw [oInts?_map r]
    rfl
def pickD : List O → FR
  | [.l [.l gs, .d (.int m)], .d (.int many)] => match oInts? gs with
    | some ns => if 0 < many ∧ many < 2 ^ 64 ∧ ns.length < 1000 ∧ 0 ≤ m ∧ m < 2147483563 then
        .ok (.d (.int (pickZ ns m many).1)) [some (stO (pickZ ns m many).2.1 (pickZ ns m many).2.2), some (.d (.int many))]
      else .fail
    | none => .fail
  | _ => .fail
theorem pickD_eq {ns : List Int} {m many : Int} (h : 0 < many ∧ many < 2 ^ 64 ∧ ns.length < 1000 ∧ 0 ≤ m ∧ m < 2147483563) : pickD [stO ns m, .d (.int many)] = .ok (.d (.int (pickZ ns m many).1)) [some (stO (pickZ ns m many).2.1 (pickZ ns m many).2.2), some (.d (.int many))] := by
  show pickD [.l [.l (ns.map fun n => .d (.int n)), .d (.int m)], .d (.int many)] = _
  simp only [pickD, oInts?_map]
  rw [if_pos h]
theorem oInts?_of {K : PySem.W.Frag} {G H : Hp} : ∀ {gs : List O} {vs : List V} {f : List Addr} {ns : List Int}, OReps K G H vs gs f → oInts? gs = some ns → vs = ns.map V.int ∧ f = [] ∧ gs = ns.map fun n => .d (.int n)
  | _, _, _, _, .nil, h => by
    cases h
    exact ⟨rfl, rfl, rfl⟩
  | _, _, _, ns, .cons (o := o) (os := os) q r, h => by
    cases q with
    | l => cases h
    | t => cases h
    | d q =>
      cases q with
      | int i =>
        cases e : oInts? os with
        | none => simp [oInts?, e] at h
        | some z =>
          simp [oInts?, e] at h
          subst h
          obtain ⟨h1, h2, h3⟩ := oInts?_of r e
          subst h1 h2 h3
          exact ⟨rfl, rfl, rfl⟩
      | _ => cases h
theorem log2_of {i : Int} {n : Nat} (h : i.natAbs < 2 ^ n) (hn : 0 < n) : i.natAbs.log2 < n := PySem.Flt.log2_lt_of hn h
theorem cdivW {i j : Int} (h : 0 < j) (h2 : j < 2 ^ 64) : CDivW i j := wide_div (b := 64) h (by omega) (by decide) (by decide)
theorem reps_ints {K : PySem.W.Frag} {G H : Hp} : ∀ ns : List Int, OReps K G H (ns.map V.int) (ns.map fun n => .d (.int n)) []
  | [] => .nil
  | n :: r => .cons (.d (.int n)) (reps_ints r)
/-- the state stands at a, its greats at b -/
theorem pick_done {K : PySem.W.Frag} {G H H' : Hp} {a b : Addr} {v1 : V} {ns : List Int} {m many r : Int} (hs : Sub G H) (ga : G a = none) (gb : G b = none) (hab : a ≠ b) (hv : v1 = .int many) (h1 : H' a = some (.lst [.ref b, .int m])) (h2 : H' b = some (.lst (ns.map V.int))) (hk : ∀ c, c ≠ a → c ≠ b → H' c = H c) :
    R K ⟨H, G, [a, b], noPin⟩ [some (.ref a), some v1] [some (stO ns m), some (.d (.int many))] [some (.int r)] [some (.d (.int r))] G H' := by
  subst hv
  refine ⟨⟨fun c o e => ?_, Sub.refl G, fun c _ hc => ⟨hk c (fun z => hc (by simp [z])) (fun z => hc (by simp [z])), rfl⟩⟩, fun i v h => (by cases h), [a, b] ++ [], [] ++ [], .cons (f := [a, b]) ?_ (.cons (.d (.int many)) .nil), .cons (.d (.int r)) .nil, by simp [hab], fun c hc => .inl (by simpa using hc)⟩
  · rw [hk c (fun z => by rw [z, ga] at e; cases e) (fun z => by rw [z, gb] at e; cases e)]
    exact hs c o e
  · exact .l h1 ga (.cons (f := [b]) (.l h2 gb (reps_ints ns)) (.cons (.d (.int m)) .nil))
theorem pickD_inv (os : List O) : pickD os = .fail ∨ ∃ gs m many ns, os = [.l [.l gs, .d (.int m)], .d (.int many)] ∧ oInts? gs = some ns ∧ (0 < many ∧ many < 2 ^ 64 ∧ ns.length < 1000 ∧ 0 ≤ m ∧ m < 2147483563) ∧ pickD os = .ok (.d (.int (pickZ ns m many).1)) [some (stO (pickZ ns m many).2.1 (pickZ ns m many).2.2), some (.d (.int many))] := by
  unfold pickD
  split
  · rename_i gs m many
    cases e : oInts? gs with
    | none => exact .inl rfl
    | some ns =>
      by_cases hc : 0 < many ∧ many < 2 ^ 64 ∧ ns.length < 1000 ∧ 0 ≤ m ∧ m < 2147483563
      · exact .inr ⟨gs, m, many, ns, rfl, e, hc, by simp only [e]; rw [if_pos hc]⟩
      · exact .inl (by simp only [e]; rw [if_neg hc])
  · exact .inl rfl
section
variable {P : Program} {w : World} {K : PySem.W.Frag} {mg : Str → Option Value} {base : Heap}
theorem ok_pick {x qual : Str} {st : Stmt} {f : Addr} {fd : FuncData} {N : List Str} (F : Fun K x qual st f fd) (S : FnScope N ["_law_state", "_law_many"] (defScope st)) (hN : N.length = 5)
    (hbody : ∀ (cdv : Value) (A : Around) (outer : List PySem.Env) (s : Shared) (H : Hp) (E : XK), Room 2 (A.deeper (envOfC qual (defScope st) s.heap.objs.size f cdv)) →
      ∃ t, PSs (cxOf (L2N.CX P w) P w K mg base N qual (defScope st) f cdv A outer s H E) (defBody st) t ∧
        ∀ (Q : VK) (H : Hp) (a b : Addr) (ns : List Int) (m many : Int), 0 < many → many < 2 ^ 64 → ns.length < 1000 → 0 ≤ m → m < 2147483563 → H a = some (.lst [.ref b, .int m]) → H b = some (.lst (ns.map V.int)) → a ≠ b →
          (∀ H', H' a = some (.lst [.ref b, .int (pickZ ns m many).2.2]) → H' b = some (.lst ((pickZ ns m many).2.1.map V.int)) → (∀ c, c ≠ a → c ≠ b → H' c = H c) → Q (.int (pickZ ns m many).1) H') →
          t { nx := fun _ H' => Q .non H', rt := Q } [some (.ref a), some (.int many), none, none, none] H) : FnOk P w K mg base (L2N.CX P w) 3 f fd ["_law_state", "_law_many"] (FP K mg 2 pickD) := by
  refine okN F S (fun vs H Q E h => h.1) fun cdv A outer s H vs Q E hr h => ?_
  obtain ⟨t, p, q⟩ := hbody cdv A outer s H E hr
  refine ⟨t, p, ?_⟩
  obtain ⟨hn, os, fp, G, sub, c, nd, hf⟩ := h
  rcases pickD_inv os with ef | ⟨gs, m, many, ns, eo, eg, hc, ep⟩
  · rw [ef] at hf
    exact hf.elim
  · rw [ep] at hf
    subst eo
    match vs, hn with
    | [v0, v1], _ =>
      cases c with
      | cons h0 c =>
        cases c with
        | cons h1 c =>
          cases c
          cases h1 with
          | d h1 =>
            cases h1
            cases h0 with
            | @l a us _ f0 ha ga r0 =>
              cases r0 with
              | cons hb r0 =>
                cases r0 with
                | cons hm r0 =>
                  cases r0
                  cases hm with
                  | d hm =>
                    cases hm
                    cases hb with
                    | @l b ws _ f1 hb gb rb =>
                      obtain ⟨e1, e2, e3⟩ := oInts?_of rb eg
                      subst e1 e2
                      have hab : a ≠ b := fun z => by
                        subst z
                        simp at nd
                      have e4 : L2.start N [V.ref a, .int many] = [some (.ref a), some (.int many), none, none, none] := by
                        unfold L2.start
                        rw [hN]
                        rfl
                      rw [e4]
                      refine q Q H a b ns m many hc.1 hc.2.1 hc.2.2.1 hc.2.2.2.1 hc.2.2.2.2 ha hb hab fun H' k1 k2 k3 => hf _ G H' ?_
                      exact pick_done sub ga gb hab rfl k1 k2 k3
end
end Dn
end
section
set_option Elab.async false
set_option linter.all false
set_option maxRecDepth 100000
set_option maxHeartbeats 4000000
/-! Dn19: list(reversed(..)), tuple(reversed(..)) of lists and tuples. -/
namespace Dn
open PySem PySem.Spec L2
open PyProof.Rows hiding St
theorem lh_rt : typeLookup (.type "reversed") "__length_hint__" = pure (some (.builtin "reversed.__length_hint__")) := by rw [typeLookup_type, builtinLookup_eq_fast]; kernel_rfl
theorem nl_rt : typeLookup (.type "reversed") "__len__" = pure none := by rw [typeLookup_type, builtinLookup_eq_fast]; kernel_rfl
theorem tupAt {h h' : Heap} {t : Addr} {items : Array Value} (x : IsTup h t items) (e : ∀ o, h.get? t = some o → h'.get? t = some o) : IsTup h' t items := let ⟨o, ho, r⟩ := x; ⟨o, e _ ho, r⟩
theorem slot_rt_hint : Slot "reversed" "__length_hint__" "reversed.__length_hint__" :=
  .of (owner := "reversed") (n := "__length_hint__") (by rw [typeLookup_type, builtinLookup_eq_fast]; kernel_rfl) (by decide +kernel) (by decide +kernel) (by decide +kernel)
    (by first | exact .inl (by decide +kernel) | exact .inr (by decide +kernel)) (by rw [isSubtype_type]; kernel_rfl)
theorem entry_rt_hint : entryFor table "reversed.__length_hint__" = some Builtin.«reversed.__length_hint__» := entryFor_of_tree (by kernel_rfl)
theorem args_rt_hint (a : Value) : argsOk "reversed.__length_hint__" ⟨[a], []⟩ := by
  unfold argsOk
  rw [signature?_of (id := "reversed.__length_hint__") (n := ['_', '_', 't', 'n', 'i', 'h', '_', 'h', 't', 'g', 'n', 'e', 'l', '_', '_']) (o := ['d', 'e', 's', 'r', 'e', 'v', 'e', 'r']) (by kernel_rfl) RT.owner_rt]
  kernel_rfl
section
variable {prog : Program} {w : World} {A : Around} {E : Value → Shared → Prop} {s : Shared}
/-- what a reversed tuple hands out -/
theorem walks_rt (hh : A.handled = none) (it t : Addr) (hne : t ≠ it) (items : Array Value) (hz : items.size ≤ sizeLine) :
    Walks prog w A it [it, t] [it] items.size (fun i v => items[items.size - 1 - i]? = some v) (fun i h => i ≤ items.size ∧ RT.IsRt h it t ((items.size : Int) - 1 - (i : Int)) ∧ IsTup h t items) where
  sub := fun b hb => by
    rw [List.mem_singleton.mp hb]
    exact List.mem_cons_self
  frame := fun i h h' x hk => by
    obtain ⟨x1, x2, o, ho, r⟩ := x
    exact ⟨x1, x2.at fun o e => hk it List.mem_cons_self o e, o, hk t (List.mem_cons_of_mem _ List.mem_cons_self) o ho, r⟩
  item := fun i s Q E hi x hQ => by
    obtain ⟨x1, x2, x3⟩ := x
    have e : (items.size : Int) - 1 - (i : Int) = ((items.size - 1 - i : Nat) : Int) := by omega
    rw [e] at x2
    have hx : items[items.size - 1 - i]? = some (items[items.size - 1 - i]'(by omega)) := Array.getElem?_eq_getElem (by omega)
    refine RT.next_rt_item x2 x3 hx hz fun h' hit' sb => ?_
    have e2 : ((items.size - 1 - i : Nat) : Int) - 1 = (items.size : Int) - 1 - ((i + 1 : Nat) : Int) := by omega
    rw [e2] at hit'
    refine hQ _ h' _ hx ⟨hi, hit', x3.extBut sb.extBut hne⟩ fun b o hb q => sb.extBut b o (fun z => hb (by rw [z]; exact List.mem_singleton.mpr rfl)) q
  done := fun s Q E x hQ => by
    obtain ⟨x1, x2, x3⟩ := x
    have e : (items.size : Int) - 1 - ((items.size : Nat) : Int) = -1 := by omega
    rw [e] at x2
    exact RT.next_rt_end hh x2 fun h' eb => hQ h' s.toks fun b o hb q => eb b o (fun z => hb (by rw [z]; exact List.mem_singleton.mpr rfl)) q
  self := fun i s Q E x h => RT.iter_rt x.2.1 h
theorem call_rt_hint {it p : Addr} {items : Array Value} {Q : Value → Shared → Prop} (hit : RT.IsRt s.heap it p ((items.size : Int) - 1)) (ht : IsTup s.heap p items) (hn : items.size ≤ sizeLine)
    (h : ∀ t tk, Q (.int (items.size : Int) t) { s with toks := tk }) : wpAny (model prog w) A (call (.builtin "reversed.__length_hint__") [.ref it]) Q E s := by
  obtain ⟨o, ho, hc, hd⟩ := id hit
  have hl : (items.size : Int) < 2 ^ 63 := by rw [sizeLine_eq] at hn; omega
  refine wpAny_call_entry slot_rt_hint hit.typeIs entry_rt_hint ?_ (args_rt_hint _)
  unfold Builtin.«reversed.__length_hint__»
  refine wpAny_bind (wpAny_of_eq (a := Value.ref it) rfl ?_)
  refine wpAny_bind (wpAny_field ho hd (x := .ref p) rfl ?_)
  show wpAny _ _ (call (.builtin "len") [Value.ref p] >>= _) _ _ _
  refine wpAny_bind (len_tuple ht hl ?_)
  show wpAny _ _ (field (.ref it) 1 >>= _) _ _ _
  refine wpAny_bind (wpAny_field (s := { s with toks := s.toks + 1 + 1 }) ho hd (x := rawInt ((items.size : Int) - 1)) rfl ?_)
  show wpAny _ _ (if (items.size : Int) < (items.size : Int) - 1 + 1 then _ else _) _ _ _
  rw [if_neg (by omega), show (items.size : Int) - 1 + 1 = (items.size : Int) from by omega]
  refine wpAny_bind (wpAny_mkInt ?_)
  exact wpAny_pure ⟨_, rfl, h _ _⟩
theorem hint_rt {it p : Addr} {items : Array Value} {Q : Bool → Shared → Prop} (hit : RT.IsRt s.heap it p ((items.size : Int) - 1)) (ht : IsTup s.heap p items) (hn : items.size ≤ sizeLine)
    (h : ∀ tk, Q ((items.size : Int) != 0) { s with toks := tk }) : wpAny (model prog w) A (Builtin.List.listLengthHint (.ref it)) Q E s := by
  have ty : s.TypeIs (.ref it) "reversed" := hit.typeIs
  have hn' := hn
  rw [sizeLine_eq] at hn'
  unfold Builtin.List.listLengthHint
  refine wpAny_bind (wpAny_specialOf ty nl_rt ?_)
  show wpAny _ A (specialOf (Value.ref it) (Str.ofString "__length_hint__") >>= _) _ _ _
  refine wpAny_bind (wpAny_specialOf ty lh_rt ?_)
  generalize hid : ("reversed.__length_hint__" : String) = k0
  wp_delta
  rw [show splitId k0 = some ("reversed", "__length_hint__") from by subst hid; decide +kernel]
  subst hid
  refine wpAny_bind (wpAny_isInstance (b := true) ty (by rw [isSubtype_type]; kernel_rfl) ?_)
  refine wpAny_ite_split (fun hab => absurd hab (by decide)) (fun _ => ?_)
  refine wpAny_ite_split (fun hab => absurd hab (by decide +kernel)) (fun _ => ?_)
  refine wpAny_bind (wpAny_rule ?_)
  refine wpAny_bind (wpAny_of_eq (slot_rt_hint.bind _) ?_)
  refine wpAny_bind (wpAny_attempt (call_rt_hint hit ht hn fun t tk => ?_))
  have b1 : Builtin.List.listFitsIndex ((items.size : Int)) = true := by simp [Builtin.List.listFitsIndex]; omega
  have b2 : Builtin.List.listTooLong ((items.size : Int).toNat) = false := by simp [Builtin.List.listTooLong, sizeLine]; omega
  have b3 : ¬ (items.size : Int) < 0 := by omega
  have h := h tk
  generalize (items.size : Int) = n at b1 b2 b3 h ⊢
  have a0 : asInt? (Value.int n t) = pure (some n) := rfl
  show wpAny _ _ (asInt? (Value.int n t) >>= _) _ _ _
  rw [a0]
  refine wpAny_bind (wpAny_pure ?_)
  show wpAny _ _ (if (!Builtin.List.listFitsIndex n) = true then _ else _) _ _ _
  refine wpAny_ite_split (fun hab => absurd hab (by rw [b1]; decide)) (fun _ => ?_)
  refine wpAny_ite_split (fun hab => absurd hab b3) (fun _ => ?_)
  refine wpAny_ite_split (fun hab => absurd hab (by rw [b2]; decide)) (fun _ => ?_)
  exact wpAny_pure h
/-- an iterator walking back over a list or a tuple -/
def RvIt (h : Heap) (it p : Addr) (items : Array Value) : Prop := (RT.IsRt h it p ((items.size : Int) - 1) ∧ IsTup h p items) ∨ (h.IsRevIter it p ((items.size : Int) - 1) ∧ h.IsList p items)
theorem RvIt.push {h : Heap} {it p : Addr} {items : Array Value} (x : RvIt h it p items) (o : Obj) : RvIt (h.push o) it p items :=
  x.elim (fun y => .inl ⟨y.1.at fun o e => Heap.get?_push_of_some _ e, tupAt y.2 fun o e => Heap.get?_push_of_some _ e⟩) (fun y => .inr ⟨y.1.at fun o e => Heap.get?_push_of_some _ e, y.2.push _⟩)
theorem RvIt.lt {h : Heap} {it p : Addr} {items : Array Value} (x : RvIt h it p items) : it < h.objs.size ∧ p < h.objs.size := by
  rcases x with ⟨⟨o, ho, _⟩, ⟨o2, ho2, _⟩⟩ | ⟨⟨o, ho, _⟩, ⟨o2, ho2, _⟩⟩
  · exact ⟨Heap.lt_size ho, Heap.lt_size ho2⟩
  · exact ⟨Heap.lt_size ho, Heap.lt_size ho2⟩
theorem extend_rv {R : Result → Shared → Prop} {Q2 : Fin → Shared → Prop} {E2 : Value → Shared → Prop} {it p S : Addr} {items : Array Value} (hh : A.handled = none) (hit : RvIt s.heap it p items) (hne : p ≠ it) (hn : items.size ≤ sizeLine) (hSi : S ≠ it) (hSt : S ≠ p) (res : Value)
    {c0 : Nat} (hS : s.heap.get? S = some { cls := .type "list", dict := none, data := .seq #[] c0, slots := #[] })
    (hR : ∀ h' tk acc c, (∀ b o, b ≠ S → b ≠ it → s.heap.get? b = some o → h'.get? b = some o) → h'.get? S = some { cls := .type "list", dict := none, data := .seq acc c, slots := #[] } →
      ItemsOf (fun i v => items[items.size - 1 - i]? = some v) acc items.size → R (.ok (.ret res)) { s with heap := h', toks := tk })
    (hG : ∀ s', codeAny (model prog w) A (.builtin "list.extend.loop" ⟨[.ref S, .ref it, res], []⟩) R s' → Q2 (.again (.builtin "list.extend.loop" ⟨[.ref S, .ref it, res], []⟩)) s') :
    wpAny (model prog w) A.in1 (Builtin.List.listExtendWith (.ref S) (.ref it) res) Q2 E2 s := by
  have nSf : S ∉ [it, p] := by simp [hSi, hSt]
  have ns : Builtin.List.listSameRef (.ref S) (.ref it) = false := by simp [Builtin.List.listSameRef, hSi]
  have fin : ∀ s' acc c, Moved (S :: [it]) (fun a b => b = a) s s' → s'.heap.get? S = some { cls := .type "list", dict := none, data := .seq acc c, slots := #[] } → ItemsOf (fun i v => items[items.size - 1 - i]? = some v) acc items.size → R (.ok (.ret res)) s' := by
    intro s' acc c hm hS' hacc
    rw [Moved.eq_with hm]
    refine hR s'.heap s'.toks acc c (fun b o hb hb2 e => hm.heap b o (fun hmem => ?_) e) hS' hacc
    rcases List.mem_cons.mp hmem with e' | hmem
    · exact hb e'
    · exact hb2 (List.mem_singleton.mp hmem)
  have e0 : ((items.size : Nat) : Int) - 1 - ((0 : Nat) : Int) = (items.size : Int) - 1 := by omega
  unfold Builtin.List.listExtendWith
  rcases hit with ⟨hit, ht⟩ | ⟨hit, ht⟩
  · have W := (walks_rt (prog := prog) (w := w) (A := A.in1) hh it p hne items hn).toS
    have ty : s.TypeIs (.ref it) "reversed" := hit.typeIs
    refine wpAny_bind (wpAny_typeOf ty ?_)
    rw [if_neg (by rw [ns]; decide)]
    refine wpAny_bind (RT.iter_rt hit ?_)
    have key : ∀ (h : Heap) (c₁ tk : Nat), RT.IsRt h it p ((items.size : Int) - 1) → IsTup h p items → (∀ b o, b ≠ S → s.heap.get? b = some o → h.get? b = some o) →
        h.get? S = some { cls := .type "list", data := .seq #[] c₁ } → codeAny (model prog w) A (.builtin "list.extend.loop" ⟨[.ref S, .ref it, res], []⟩) R { s with heap := h, toks := tk } := by
      intro h c₁ tk i1 i2 hk hS₁
      refine codeAny_extend_loopS W hn S nSf res items.size 0 _ #[] c₁ rfl (Nat.zero_le _) ⟨Nat.zero_le _, by rw [e0]; exact i1, i2⟩ hS₁ (ItemsOf.nil _) fun s' acc' c' hm hS' hacc => ?_
      rw [Moved.eq_with hm]
      refine hR s'.heap s'.toks acc' c' (fun b o hb hb2 e => hm.heap b o (fun hmem => ?_) (hk b o hb e)) hS' hacc
      rcases List.mem_cons.mp hmem with e' | hmem
      · exact hb e'
      · exact hb2 (List.mem_singleton.mp hmem)
    refine wpAny_bind (wpAny_holding (hint_rt hit ht hn fun tk => ?_))
    refine wpAny_ite_split (fun _ => ?_) (fun _ => wpAny_pure (hG _ (key _ c0 _ hit ht (fun b o _ e => e) hS)))
    refine wpAny_bind (wpAny_rule ?_)
    refine wpAny_bind ?_
    show wpAny _ _ (updateSeq S (·.push .none) >>= fun _ => updateSeq S (·.pop)) _ _ _
    refine wpAny_bind (wpAny_updateSeq hS rfl ?_)
    have hS₂ := Heap.get?_update_self (Obj.mapSeq (·.push Value.none)) hS rfl
    refine wpAny_updateSeq (hz := by seq_fits) hS₂ rfl ?_
    have hS₃ := Heap.get?_update_self (Obj.mapSeq (·.pop)) hS₂ rfl
    have oth : ∀ b o, b ≠ S → s.heap.get? b = some o → ((s.heap.update S (Obj.mapSeq (·.push Value.none))).update S (Obj.mapSeq (·.pop))).get? b = some o :=
      fun b o hb e => (Heap.get?_update_other _ _ (Ne.symm hb)).trans ((Heap.get?_update_other _ _ (Ne.symm hb)).trans e)
    exact wpAny_pure (hG _ (key _ _ _ (hit.at fun o e => oth _ o (Ne.symm hSi) e) (tupAt ht fun o e => oth _ o (Ne.symm hSt) e) oth hS₃))
  · have W := (Walks.listRev (prog := prog) (w := w) (A := A.in1) hh it p hne items).toS
    have ty : s.TypeIs (.ref it) "list_reverseiterator" := hit.typeIs
    refine wpAny_bind (wpAny_typeOf ty ?_)
    rw [if_neg (by rw [ns]; decide)]
    refine wpAny_bind (wpAny_pyIter_revIter hit ?_)
    refine wpAny_bind (wpAny_holding ?_)
    unfold Builtin.List.listLengthHint
    refine wpAny_bind (wpAny_specialOf ty RT.nolen_lri ?_)
    show wpAny _ A.in1 (specialOf (Value.ref it) (Str.ofString "__length_hint__") >>= _) _ _ _
    refine wpAny_bind (wpAny_specialOf ty RT.hint_lri ?_)
    generalize hid : ("list_reverseiterator.__length_hint__" : String) = k0
    wp_delta
    rw [show splitId k0 = some ("list_reverseiterator", "__length_hint__") from by subst hid; decide +kernel]
    subst hid
    refine wpAny_bind (wpAny_isInstance (b := true) ty (by rw [isSubtype_type]; kernel_rfl) ?_)
    refine wpAny_pure ?_
    rw [if_neg (by decide)]
    exact wpAny_pure (hG _ (codeAny_extend_loopS W hn _ nSf _ items.size 0 _ _ _ rfl (Nat.zero_le _) ⟨Nat.zero_le _, by rw [e0]; exact hit, ht⟩ hS (ItemsOf.nil _) fin))
/-- list(reversed(..)) -/
theorem call_listRv {Q : Value → Shared → Prop} {it p : Addr} {items : Array Value} (hh : A.handled = none) (hit : RvIt s.heap it p items) (hne : p ≠ it) (hn : items.size ≤ sizeLine)
    (hQ : ∀ h' tk acc c, (∀ b o, b ≠ it → s.heap.get? b = some o → h'.get? b = some o) →
      h'.get? s.heap.objs.size = some { cls := .type "list", dict := none, data := .seq acc c, slots := #[] } → ItemsOf (fun i v => items[items.size - 1 - i]? = some v) acc items.size → Q (.ref s.heap.objs.size) { s with heap := h', toks := tk }) :
    wpAny (model prog w) A (call (.type "list") [.ref it]) Q E s := by
  obtain ⟨l1, l2⟩ := hit.lt
  refine callType_codes (Q₁ := fun obj s₁ => obj = .ref s.heap.objs.size ∧ s₁ = { s with heap := s.heap.push { cls := .type "list", data := .seq #[] } }) F.called_list (F.typeCall_list_1 _) F.entry_list_init
    (code_list_new _ ⟨rfl, rfl⟩) fun obj s₁ h₁ => ?_
  obtain ⟨rfl, rfl⟩ := h₁
  have hS : (s.heap.push { cls := .type "list", data := .seq #[] }).get? s.heap.objs.size = some { cls := .type "list", data := .seq #[] } := Heap.get?_push_size _ rfl
  refine ⟨⟨_, hS, rfl⟩, F.args_list_init_2 _ _, ?_⟩
  show wpAny _ _ (do let old ← Builtin.List.listItems (.ref s.heap.objs.size); Builtin.List.listUpdate (.ref s.heap.objs.size) (fun _ => #[]); letGo old.toList.reverse; Builtin.List.listExtendWith (.ref s.heap.objs.size) (.ref it) .none) _ _ _
  refine wpAny_bind ?_
  unfold Builtin.List.listItems
  refine wpAny_bind (wpAny_seqItems hS rfl (wpAny_pure ?_))
  show wpAny _ _ (updateSeq s.heap.objs.size (fun _ => #[]) >>= fun _ => letGo (#[] : Array Value).toList.reverse >>= fun _ => Builtin.List.listExtendWith (.ref s.heap.objs.size) (.ref it) .none) _ _ _
  refine wpAny_bind (wpAny_updateSeq hS rfl ?_)
  have hS₂ := Heap.get?_update_self (Obj.mapSeq (fun _ => (#[] : Array Value))) hS rfl
  have oth : ∀ b o, b ≠ s.heap.objs.size → s.heap.get? b = some o → ((s.heap.push { cls := .type "list", data := .seq #[] }).update s.heap.objs.size (Obj.mapSeq (fun _ => (#[] : Array Value)))).get? b = some o :=
    fun b o hb e => (Heap.get?_update_other _ _ (Ne.symm hb)).trans (Heap.get?_push_of_some _ e)
  have hit2 : RvIt ((s.heap.push { cls := .type "list", data := .seq #[] }).update s.heap.objs.size (Obj.mapSeq (fun _ => (#[] : Array Value)))) it p items :=
    hit.elim (fun y => .inl ⟨y.1.at fun o e => oth _ o (Nat.ne_of_lt l1) e, tupAt y.2 fun o e => oth _ o (Nat.ne_of_lt l2) e⟩) (fun y => .inr ⟨y.1.at fun o e => oth _ o (Nat.ne_of_lt l1) e, y.2.at fun o e => oth _ o (Nat.ne_of_lt l2) e⟩)
  refine wpAny_bind (wpAny_letGo ?_)
  refine extend_rv (A := A.in1) hh hit2 hne hn (Nat.ne_of_gt l1) (Nat.ne_of_gt l2) .none hS₂ (fun h' tk acc c hk hS' hacc => ?_) fun s' hg => ⟨plainId_quiet F.plain_extend_loop _, hg⟩
  exact ⟨rfl, hQ h' tk acc c (fun b o hb e => hk b o (Nat.ne_of_lt (Heap.lt_size e)) hb (oth b o (Nat.ne_of_lt (Heap.lt_size e)) e)) hS' hacc⟩
theorem collect_rv {it p : Addr} {items : Array Value} {Q : List Value → Shared → Prop} (hh : A.handled = none) (hit : RvIt s.heap it p items) (hne : p ≠ it) (hn : items.size ≤ sizeLine)
    (hQ : ∀ (h' : Heap) (tk : Nat) (acc : Array Value), (∀ b o, b ≠ it → s.heap.get? b = some o → h'.get? b = some o) → ItemsOf (fun i v => items[items.size - 1 - i]? = some v) acc items.size → Q acc.toList { s with heap := h', toks := tk }) :
    wpAny (model prog w) A (collect (.ref it)) Q E s := by
  obtain ⟨l1, l2⟩ := hit.lt
  unfold collect
  refine wpAny_bind (wpAny_runValue (codeAny_builtin F.entry_proto_collect ?_))
  rw [Around.under_plainId F.plain_proto_collect _]
  show wpAny _ A.in1 (newList [] >>= fun l' => again (.builtin "list.__iadd__" ⟨[l', .ref it], []⟩)) _ _ s
  refine wpAny_bind (wpAny_newObj_type ?_)
  refine wpAny_pure ⟨plainId_quiet F.plain_list_iadd _, codeAny_builtin F.entry_list_iadd ?_⟩
  rw [Around.under_plainId F.plain_list_iadd _]
  have hS₁ : (s.heap.push { cls := .type "list", data := .seq ([] : List Value).toArray }).get? s.heap.objs.size = some { cls := .type "list", data := .seq ([] : List Value).toArray } := Heap.get?_push_size _ rfl
  show wpAny _ A.in1 (Builtin.List.listExtendWith (.ref s.heap.objs.size) (.ref it) (.ref s.heap.objs.size)) _ _ _
  refine extend_rv (s := { s with heap := s.heap.push { cls := .type "list", data := .seq ([] : List Value).toArray } }) hh (hit.push _) hne hn (Nat.ne_of_gt l1) (Nat.ne_of_gt l2) _ hS₁ (fun h' tk acc c hk hS' hacc => ?_) fun s' hg => ⟨plainId_quiet F.plain_extend_loop _, hg⟩
  show wpAny _ A (load s.heap.objs.size >>= _) _ _ _
  refine wpAny_bind (wpAny_load hS' ?_)
  refine wpAny_pure ?_
  exact hQ h' tk acc (fun b o hb e => hk b o (Nat.ne_of_lt (Heap.lt_size e)) hb (Heap.get?_push_of_some _ e)) hacc
theorem code_tupRv {it p : Addr} {items : Array Value} {Q₁ : Value → Shared → Prop} (hh : A.handled = none) (hit : RvIt s.heap it p items) (hne : p ≠ it) (hn : items.size ≤ sizeLine)
    (h : ∀ (h' : Heap) (tk : Nat) (acc : Array Value), (∀ b o, b ≠ it → s.heap.get? b = some o → h'.get? b = some o) → ItemsOf (fun i v => items[items.size - 1 - i]? = some v) acc items.size →
      Q₁ (.ref h'.objs.size) { s with heap := h'.push { cls := .type "tuple", data := .seq acc }, toks := tk }) :
    codeAny (model prog w) A (.call (.builtin "tuple.__new__") ⟨[.type "tuple", .ref it], []⟩) (wants Q₁ E) s := by
  refine codeAny_of_tree ?_
  show wpAny _ A.in1 (do checkBuiltinCall "tuple.__new__" ⟨[.type "tuple", .ref it], []⟩; again (.builtin "tuple.__new__" ⟨[.type "tuple", .ref it], []⟩)) _ _ s
  refine wpAny_bind (wpAny_of_eq (F.newCall_tuple_1 _) (wpAny_pure ⟨plainId_quiet F.plain_tuple_new _, codeAny_builtin F.entry_tuple_new ?_⟩))
  rw [Around.under_plainId F.plain_tuple_new _]
  have hsub := sub_tuple_self
  have hinit := init_tuple_lookup
  have hmh := madeHere_tuple
  have hh1 : A.in1.handled = none := hh
  have aft : ∀ (h' : Heap) (tk : Nat) (acc : Array Value), (∀ b o, b ≠ it → s.heap.get? b = some o → h'.get? b = some o) → ItemsOf (fun i v => items[items.size - 1 - i]? = some v) acc items.size →
      wpAny (model prog w) A.in1 (Builtin.Tuple.tupleExact acc.toList.toArray >>= fun v => ret v) (fun fin s' => match fin with | .done f => wants Q₁ E (.ok f) s' | .again c' => c'.quiet = true ∧ codeAny (model prog w) A c' (wants Q₁ E) s') (fun e s' => wants Q₁ E (.error e) s') { s with heap := h', toks := tk } := by
    intro h' tk acc hk hacc
    unfold Builtin.Tuple.tupleExact
    refine wpAny_bind (wpAny_newObj_type ?_ (by show acc.toList.toArray.size ≤ sizeLine; simp only [Array.toArray_toList]; rw [hacc.1]; exact hn))
    refine wpAny_pure ?_
    have e : acc.toList.toArray = acc := by simp
    rw [e]
    exact h h' tk acc hk hacc
  rcases id hit with ⟨h1, h2⟩ | ⟨h1, h2⟩
  · have hTI : s.TypeIs (.ref it) "reversed" := h1.typeIs
    wp_walk using wpAny_typeOf hTI, collect_rv (A := A.in1) hh1 hit hne hn
    exact aft
  · have hTI : s.TypeIs (.ref it) "list_reverseiterator" := h1.typeIs
    wp_walk using wpAny_typeOf hTI, collect_rv (A := A.in1) hh1 hit hne hn
    exact aft
theorem call_tupRv {it p : Addr} {items : Array Value} {Q : Value → Shared → Prop} (hh : A.handled = none) (hit : RvIt s.heap it p items) (hne : p ≠ it) (hn : items.size ≤ sizeLine)
    (hQ : ∀ (h' : Heap) (tk : Nat) (acc : Array Value), (∀ b o, b ≠ it → s.heap.get? b = some o → h'.get? b = some o) → ItemsOf (fun i v => items[items.size - 1 - i]? = some v) acc items.size →
      Q (.ref h'.objs.size) { s with heap := h'.push { cls := .type "tuple", data := .seq acc }, toks := tk }) :
    wpAny (model prog w) A (call (.type "tuple") [.ref it]) Q E s := by
  refine callType_codes (Q₁ := fun obj s₁ => s₁.TypeIs obj "tuple" ∧ Q obj s₁) F.called_tuple (F.typeCall_tuple_1 _) F.entry_object_init
    (code_tupRv (A := A.in1) hh hit hne hn fun h' tk acc hk hacc => ⟨⟨_, Heap.get?_push_size _ rfl, rfl⟩, hQ h' tk acc hk hacc⟩) fun obj s₁ h₁ => ?_
  exact ⟨h₁.1, F.args_object_init_2 obj _, object_init_meets F.called_tuple.init.lookup F.called_tuple.made (by decide) prog w A.in1 _ s₁ ⟨h₁.1, rfl, h₁.2⟩⟩
end
/-- tuple(reversed(x)), list(reversed(x)) of a list or a tuple -/
def tTupRv (K : PySem.W.Frag) (te : TE) : TE := fun σ H Q => te σ H fun v H1 => ∃ (a : Addr) (xs : List V), v = .ref a ∧ (SqL K H1 a xs ∨ SqT K H1 a xs) ∧ ∀ q, H1 q = none → Q (.ref q) (upd H1 q (.tup xs.reverse))
def tLstRv (K : PySem.W.Frag) (te : TE) : TE := fun σ H Q => te σ H fun v H1 => ∃ (a : Addr) (xs : List V), v = .ref a ∧ (SqL K H1 a xs ∨ SqT K H1 a xs) ∧ ∀ q, H1 q = none → Q (.ref q) (upd H1 q (.lst xs.reverse))
section
variable {X : Cx} {W : WX} {np : Asm}
/-- what both share: the made iterator, and what the outer call then owes -/
theorem rv_made {pins : List (Addr × Obj)} {σ : L2.St} {H1 : Hp} {s1 : Shared} {a : Addr} {xs : List V} {A : Around} {E : Value → Shared → Prop} {Q : Value → Shared → Prop} (I1 : Inv X pins σ H1 s1) (hq : SqL X.K H1 a xs ∨ SqT X.K H1 a xs)
    (k : ∀ (it : Addr) (items : Array Value) (h' : Heap) (tk : Nat), RvIt h' it a items → a ≠ it → items.size ≤ sizeLine → Vals xs items.toList → Inv X pins σ H1 { s1 with heap := h', toks := tk } →
      (∀ (H2 : Hp) (h1 h2 : Heap) (tk1 tk2 : Nat), H2 it = none → Inv X pins σ H2 { s1 with heap := h1, toks := tk1 } → (∀ b o, b ≠ it → h1.get? b = some o → h2.get? b = some o) → Inv X pins σ H2 { s1 with heap := h2, toks := tk2 }) → H1 it = none → it < h'.objs.size → Q (.ref it) { s1 with heap := h', toks := tk }) :
    wpAny (model X.prog X.w) A (call (.type "reversed") [.ref a]) Q E s1 := by
  have hn0 : H1 s1.heap.objs.size = none := I1.hok.fresh (Nat.le_refl _)
  have back : ∀ (H2 : Hp) (h1 h2 : Heap) (tk1 tk2 : Nat), H2 s1.heap.objs.size = none → Inv X pins σ H2 { s1 with heap := h1, toks := tk1 } → (∀ b o, b ≠ s1.heap.objs.size → h1.get? b = some o → h2.get? b = some o) → Inv X pins σ H2 { s1 with heap := h2, toks := tk2 } := by
    intro H2 h1 h2 tk1 tk2 hn I hk
    obtain ⟨f0, f1, f2, f3, f4, f5⟩ := I1.fpOk (H' := H2) (b := s1.heap.objs.size) (Nat.le_refl _) hn
    exact I.turned (t' := tk2) (fun b o hb e => hk b o hb e) f0 f1 f3 f4 f5
  rcases hq with hq | hq
  · obtain ⟨its, rv, p', hz⟩ := I1.list hq
    have hl := p'.isList
    obtain ⟨ol, hol, _⟩ := id hl
    have hne : a ≠ s1.heap.objs.size := Nat.ne_of_lt (Heap.lt_size hol)
    have hn : its.toArray.size ≤ sizeLine := by rw [List.size_toArray, ← rv.length]; exact hz
    refine call_reversed_list hl ?_
    have k0 : ∀ b o, s1.heap.get? b = some o → (s1.heap.push (revObj a ((its.toArray.size : Int) - 1))).get? b = some o := fun b o e => Heap.get?_push_of_some _ e
    have I2 : Inv X pins σ H1 { s1 with heap := s1.heap.push (revObj a ((its.toArray.size : Int) - 1)), toks := s1.toks } := I1.kept (t' := s1.toks) k0
    exact k _ its.toArray _ s1.toks (.inr ⟨⟨_, Heap.get?_push_size _ rfl, rfl, rfl⟩, hl.push _⟩) hne hn rv I2 back hn0 (by simp [Heap.push])
  · obtain ⟨its, rv, p', hz⟩ := I1.tuple hq
    obtain ⟨ol, hol, _⟩ := id p'
    have hne : a ≠ s1.heap.objs.size := Nat.ne_of_lt (Heap.lt_size hol)
    have hn : its.toArray.size ≤ sizeLine := by rw [List.size_toArray, ← rv.length]; exact hz
    have hn2 := hn
    rw [sizeLine_eq] at hn2
    refine RT.call_reversed_tup p' (fun A E Q k => len_tuple p' (by omega) k) ?_
    have k0 : ∀ b o, s1.heap.get? b = some o → (s1.heap.push (RT.rtObj a ((its.toArray.size : Int) - 1))).get? b = some o := fun b o e => Heap.get?_push_of_some _ e
    have I2 : Inv X pins σ H1 { s1 with heap := s1.heap.push (RT.rtObj a ((its.toArray.size : Int) - 1)), toks := s1.toks + 1 + 1 } := I1.kept (t' := s1.toks + 1 + 1) k0
    exact k _ its.toArray _ (s1.toks + 1 + 1) (.inl ⟨⟨_, Heap.get?_push_size _ rfl, rfl, rfl⟩, tupAt p' (k0 _)⟩) hne hn rv I2 back hn0 (by simp [Heap.push])
theorem pe_tupRv {e : Expr} {te : TE} {p p2 pos pos2 : Pos} (hc : X.calm = true) (hg : Gl X "tuple") (hm : X.mg "tuple" = none) (hg2 : Gl X "reversed") (hm2 : X.mg "reversed" = none) (he : PE X e te)
    (hs : starEach [e] X.env = (false, eval e X.env) :: starEach [] X.env)
    (hs2 : starEach [.Call (.Name "reversed" p2) [e] [] pos2] X.env = (false, eval (.Call (.Name "reversed" p2) [e] [] pos2) X.env) :: starEach [] X.env) :
    PE X (.Call (.Name "tuple" p) [.Call (.Name "reversed" p2) [e] [] pos2] [] pos) (tTupRv X.K te) := by
  refine ⟨fun pins s σ H Q I h => ?_⟩
  refine Call_ (ld_blt I hg hm boot_tuple (PyProof.Rows.callWith_type1 (args_cons (Call_ (ld_blt I hg2 hm2 PyProof.Rows.boot_reversed (PyProof.Rows.callWith_type1 (args_cons (thn (he.run pins s σ H _ I h) fun u s1 ⟨v, H1, I1, r1, q1⟩ => args_nil ?_) hs) hs rfl))) hs2) hs2 rfl))
  obtain ⟨a, xs, ev, hq, q⟩ := q1
  subst ev
  obtain rfl : u = Value.ref a := r1
  refine rv_made I1 hq fun it items h' tk hit hne hn rv I2 back hn0 hlt => args_nil ?_
  refine call_tupRv (s := { s1 with heap := h', toks := tk }) (I1.ok.hd hc) hit hne hn fun h2 tk2 acc hk hi => ?_
  have I3 := back H1 h' h2 tk tk2 hn0 I2 hk
  have hl : xs.length = items.size := rv.length
  have rv' : Vals xs.reverse acc.toList := RT.vals_rev (its := items.toList) rv (by rw [Array.toArray_toList]; exact hi)
  refine ⟨.ref h2.objs.size, upd H1 h2.objs.size (.tup xs.reverse), I3.laid (t' := tk2) (fun c o e => Heap.get?_push_of_some _ e) (Nat.le_refl _) (show ObjOk X.prog X.w _ _ _ (.tup xs.reverse) from ⟨by rw [List.length_reverse, hl]; exact hn, acc.toList, rv', ?_⟩), rfl, q _ (I3.hok.fresh (Nat.le_refl _))⟩
  rw [Array.toArray_toList]
  exact IsTup.new _ _
theorem pe_lstRv {e : Expr} {te : TE} {p p2 pos pos2 : Pos} (hc : X.calm = true) (hg : Gl X "list") (hm : X.mg "list" = none) (hg2 : Gl X "reversed") (hm2 : X.mg "reversed" = none) (he : PE X e te)
    (hs : starEach [e] X.env = (false, eval e X.env) :: starEach [] X.env)
    (hs2 : starEach [.Call (.Name "reversed" p2) [e] [] pos2] X.env = (false, eval (.Call (.Name "reversed" p2) [e] [] pos2) X.env) :: starEach [] X.env) :
    PE X (.Call (.Name "list" p) [.Call (.Name "reversed" p2) [e] [] pos2] [] pos) (tLstRv X.K te) := by
  refine ⟨fun pins s σ H Q I h => ?_⟩
  refine Call_ (ld_blt I hg hm boot_list (PyProof.Rows.callWith_type1 (args_cons (Call_ (ld_blt I hg2 hm2 PyProof.Rows.boot_reversed (PyProof.Rows.callWith_type1 (args_cons (thn (he.run pins s σ H _ I h) fun u s1 ⟨v, H1, I1, r1, q1⟩ => args_nil ?_) hs) hs rfl))) hs2) hs2))
  obtain ⟨a, xs, ev, hq, q⟩ := q1
  subst ev
  obtain rfl : u = Value.ref a := r1
  refine rv_made I1 hq fun it items h' tk hit hne hn rv I2 back hn0 hlt => args_nil ?_
  refine call_listRv (s := { s1 with heap := h', toks := tk }) (I1.ok.hd hc) hit hne hn fun h2 tk2 acc c hk hg2 hi => ?_
  have hl : xs.length = items.size := rv.length
  have rv' : Vals xs.reverse acc.toList := RT.vals_rev (its := items.toList) rv (by rw [Array.toArray_toList]; exact hi)
  have hq2 : H1 h'.objs.size = none := I2.hok.fresh (Nat.le_refl _)
  have I3 : Inv X pins σ (upd H1 h'.objs.size (.lst xs.reverse)) { s1 with heap := h'.push { cls := .type "list", dict := none, data := .seq acc c, slots := #[] }, toks := tk } :=
    I2.laid (t' := tk) (fun b o e => Heap.get?_push_of_some _ e) (Nat.le_refl _) (show ObjOk X.prog X.w _ _ _ (.lst xs.reverse) from ⟨by rw [List.length_reverse, hl]; exact hn, acc.toList, c, rv', by rw [Array.toArray_toList]; exact Heap.get?_push_size _ rfl⟩)
  have I4 := back _ _ h2 tk tk2 (by rw [upd_ne (Nat.ne_of_lt hlt)]; exact hn0) I3 fun b o hb e => by
    rcases Heap.get?_push_cases e with ⟨e1, e2⟩ | e1
    · rw [e1, e2]
      exact hg2
    · exact hk b o hb e1
  exact ⟨.ref h'.objs.size, _, I4, rfl, q _ hq2⟩
def seqF (o : O) : Option (List D) := match tupF o with
  | some xs => some xs
  | none => lstF o
theorem seqF_of {G H : Hp} {K : PySem.W.Frag} (e : Sub G H) {v : V} {o : O} {xs : List D} (h : ∃ f, ORep K G H v o f) (hx : seqF o = some xs) : ∃ a vs, v = .ref a ∧ (SqL K H a vs ∨ SqT K H a vs) ∧ Reps K G vs xs := by
  unfold seqF at hx
  cases e1 : tupF o with
  | some ys =>
    rw [e1] at hx
    cases hx
    obtain ⟨a, vs, e2, sq, rp, _⟩ := tupF_of e h e1
    exact ⟨a, vs, e2, .inr sq, rp⟩
  | none =>
    rw [e1] at hx
    obtain ⟨a, vs, e2, sq, rp⟩ := lstF_of e h hx
    exact ⟨a, vs, e2, .inl sq, rp⟩
def mRv (f : List D → O) (m : ME) : ME := fun env => match m env with
  | .ok o e => match seqF o with
    | some xs => .ok (f xs.reverse) e
    | none => .fail
  | .exc x e => .exc x e
  | .fail => .fail
def mtupleRev (m : ME) : ME := mRv (fun xs => .d (.tup xs)) m
def mlistRev (m : ME) : ME := mRv (fun xs => .l (xs.map O.d)) m
theorem de_tupleRev {e : Expr} {m : ME} {p p2 pos pos2 : Pos} (h1 : X.mg "tuple" = none) (h2 : X.mg "reversed" = none) (h : DE X W np e m) (hc : X.calm = true := by rfl) (hg : Gl X "tuple" := by rfl) (hg2 : Gl X "reversed" := by rfl) (hs : starEach [e] X.env = (false, eval e X.env) :: starEach [] X.env := by rfl)
    (hs2 : starEach [.Call (.Name "reversed" p2) [e] [] pos2] X.env = (false, eval (.Call (.Name "reversed" p2) [e] [] pos2) X.env) :: starEach [] X.env := by rfl) : DE X W np (.Call (.Name "tuple" p) [.Call (.Name "reversed" p2) [e] [] pos2] [] pos) (mtupleRev m) := by
  obtain ⟨t, pe, s⟩ := h.ex
  refine ⟨_, pe_tupRv hc hg h1 hg2 h2 pe hs hs2, fun Γ σ env τ stk G H Q hp r h => s Γ σ env τ stk G H _ hp r ?_⟩
  unfold mtupleRev mRv at h
  cases q : m env with
  | ok o e =>
    simp only [q] at h
    intro v G' H' r'
    cases ea : seqF o with
    | none => simp only [ea] at h; exact False.elim h
    | some xs =>
      simp only [ea] at h
      obtain ⟨a, vs, e1, sq, rp⟩ := seqF_of r'.wd.sub r'.top ea
      exact ⟨a, vs, e1, sq, fun q hq => h _ _ _ (r'.pop.mkT rp.rev hq)⟩
  | exc x e =>
    simp only [q] at h
    exact h
  | fail =>
    simp only [q] at h
    exact h
theorem de_listRev {e : Expr} {m : ME} {p p2 pos pos2 : Pos} (h1 : X.mg "list" = none) (h2 : X.mg "reversed" = none) (h : DE X W np e m) (hc : X.calm = true := by rfl) (hg : Gl X "list" := by rfl) (hg2 : Gl X "reversed" := by rfl) (hs : starEach [e] X.env = (false, eval e X.env) :: starEach [] X.env := by rfl)
    (hs2 : starEach [.Call (.Name "reversed" p2) [e] [] pos2] X.env = (false, eval (.Call (.Name "reversed" p2) [e] [] pos2) X.env) :: starEach [] X.env := by rfl) : DE X W np (.Call (.Name "list" p) [.Call (.Name "reversed" p2) [e] [] pos2] [] pos) (mlistRev m) := by
  obtain ⟨t, pe, s⟩ := h.ex
  refine ⟨_, pe_lstRv hc hg h1 hg2 h2 pe hs hs2, fun Γ σ env τ stk G H Q hp r h => s Γ σ env τ stk G H _ hp r ?_⟩
  unfold mlistRev mRv at h
  cases q : m env with
  | ok o e =>
    simp only [q] at h
    intro v G' H' r'
    cases ea : seqF o with
    | none => simp only [ea] at h; exact False.elim h
    | some xs =>
      simp only [ea] at h
      obtain ⟨a, vs, e1, sq, rp⟩ := seqF_of r'.wd.sub r'.top ea
      exact ⟨a, vs, e1, sq, fun q hq => h _ _ _ (r'.pop.mkL rp.rev hq)⟩
  | exc x e =>
    simp only [q] at h
    exact h
  | fail =>
    simp only [q] at h
    exact h
end
end Dn
end
section
set_option Elab.async false
set_option linter.all false
set_option maxRecDepth 100000
set_option maxHeartbeats 4000000
/-! Dn20: sorted(x) of a list or a tuple of ints. -/
namespace Dn
open PySem PySem.Spec L2
open PyProof.Rows hiding St
section
variable {prog : Program} {w : World} {A : Around} {E : Value → Shared → Prop} {s : Shared}
theorem collect_tup {l : Addr} {vs : List Value} {Q : List Value → Shared → Prop} (hl : IsTup s.heap l vs.toArray)
    (h : Q vs { s with heap := (s.heap.push (seqObj "list" #[] 0)).update s.heap.objs.size (Obj.mapSeq (· ++ vs.toArray)) }) (hsz : vs.length ≤ sizeLine) :
    wpAny (model prog w) A (collect (.ref l)) Q E s := by
  obtain ⟨o, ho, hc, n, hd⟩ := id hl
  have hn : l ≠ s.heap.objs.size := Nat.ne_of_lt (Heap.lt_size ho)
  unfold collect
  refine wpAny_bind (wpAny_runValue (codeAny_builtin entry_proto_collect' ?_))
  show wpAny _ _ (do again (.builtin "list.__iadd__" ⟨[← newList [], .ref l], []⟩)) _ _ s
  refine wpAny_bind (wpAny_newList (wpAny_pure ⟨Code.quiet_builtin _ (by decide +kernel), codeAny_builtin entry_list_iadd' ?_⟩))
  show wpAny _ _ (Builtin.List.listExtendWith (.ref s.heap.objs.size) (.ref l) (.ref s.heap.objs.size)) _ _ { s with heap := s.heap.push (seqObj "list" #[] 0) }
  unfold Builtin.List.listExtendWith
  have ho' : (s.heap.push (seqObj "list" #[] 0)).get? l = some o := Heap.get?_push_of_some _ ho
  refine wpAny_bind (wpAny_typeOf (T := "tuple") ⟨o, ho', hc⟩ ?_)
  rw [if_pos (by simp)]
  refine wpAny_bind (listItems_at ho' hd ?_)
  refine wpAny_bind (listItems_at (xs := #[]) (n := 0) (Heap.get?_push_size _ rfl) rfl ?_)
  rw [if_neg (by simp)]
  refine wpAny_bind (listUpdate_at (xs := #[]) (n := 0) (Heap.get?_push_size _ rfl) rfl ?_ (Nat.zero_le _) (by
    have e : (#[] ++ vs.toArray : Array Value).size = vs.length := by simp
    refine Nat.le_trans (Nat.le_of_eq e) ?_
    exact Nat.le_succ_of_le hsz))
  refine wpAny_pure ?_
  show wpAny (model prog w) A (load s.heap.objs.size >>= fun o => match o.data with
      | .seq xs _ => pure xs.toList
      | _ => unsupported "internal:collect") Q E { s with heap := (s.heap.push (seqObj "list" #[] 0)).update s.heap.objs.size (Obj.mapSeq (· ++ vs.toArray)) }
  refine wpAny_bind (wpAny_load (get?_update_seq (Heap.get?_push_size _ rfl) _) ?_)
  show wpAny _ _ (pure ((#[] : Array Value) ++ vs.toArray).toList) Q E _
  have e : ((#[] : Array Value) ++ vs.toArray).toList = vs := by simp
  rw [e]
  exact wpAny_pure h
theorem sorted_ordT {l : Addr} {vs : List Value} {ltv : Value → Value → Bool} {Q : Value → Shared → Prop} (O : SrtO.Swo ltv) (hl : IsTup s.heap l vs.toArray) (hz : vs.length ≤ sizeLine)
    (hS : 2 ≤ vs.length → ∀ (h₁ : Heap) (a : Addr), SrtO.SortableO prog w A.in1.in1 { s with heap := h₁ } a vs ltv)
    (h : ∀ out : List Value, SrtO.Srtd ltv out → SrtO.Stb ltv out vs → Q (.ref (s.heap.objs.size + 1)) { s with heap := sortedAll s.heap vs out.toArray }) :
    wpAny (model prog w) A (call (.builtin "sorted") [.ref l]) Q E s := by
  refine Calls.call_function_entry kind_sorted plain_sorted entry_sorted (args_sorted1 _) ?_
  unfold Builtin.«sorted»
  refine wpAny_bind (m := checkCount "sorted" 1 1 _) (wpAny_pure ?_)
  refine wpAny_bind (collect_tup hl ?_ hz)
  refine wpAny_bind (wpAny_newList ?_ hz)
  have hsz : ((s.heap.push (seqObj "list" #[] 0)).update s.heap.objs.size (Obj.mapSeq (· ++ vs.toArray))).objs.size = s.heap.objs.size + 1 := by
    rw [Heap.size_update, size_push']
  have hoL : (((s.heap.push (seqObj "list" #[] 0)).update s.heap.objs.size (Obj.mapSeq (· ++ vs.toArray))).push (seqObj "list" vs.toArray 0)).get? (s.heap.objs.size + 1) = some (seqObj "list" vs.toArray 0) := by
    rw [← hsz]
    exact Heap.get?_push_size _ rfl
  show wpAny _ _ _ _ _ { s with heap := ((s.heap.push (seqObj "list" #[] 0)).update s.heap.objs.size (Obj.mapSeq (· ++ vs.toArray))).push (seqObj "list" vs.toArray 0) }
  rw [hsz]
  refine wpAny_bind (wpAny_holding (wpAny_call_entry slot_list_sort ⟨_, hoL, rfl⟩ entry_list_sort (SrtO.list_sort_ord O hoL hz (fun h2 => hS h2 _ _) fun out hs hb => ⟨_, rfl, ?_⟩) (args_list_sort _)))
  exact wpAny_pure ⟨_, rfl, h out hs hb⟩
end
/-- sorted(x), x a list or a tuple of ints -/
def rSortedA (K : PySem.W.Frag) : List V → Hp → VK → Prop := fun vs H Q => ∃ (a : Addr) (ns : List Int), vs = [V.ref a] ∧ (SqL K H a (ns.map V.int) ∨ SqT K H a (ns.map V.int)) ∧
  ∀ (ns' : List Int) (p : Addr), ns'.Perm ns → ns'.Pairwise (· ≤ ·) → H p = none → Q (.ref p) (upd H p (.lst (ns'.map V.int)))
theorem cr_sortedA {X : Cx} : CallR X (.builtin "sorted") (rSortedA X.K) := by
  intro pins s σ H vs us Q I r h
  obtain ⟨a, ns, rfl, hs, q⟩ := h
  rcases hs with hs | hs
  · exact cr_sortedI pins s σ H _ us Q I r ⟨a, ns, rfl, hs, q⟩
  · obtain ⟨its, rv, hl, hz⟩ := I.tuple hs
    rw [Vals.ref1 r]
    have hi := rv.ints
    refine sorted_ordT SrtO.swo_int hl (by rw [← rv.length]; exact hz) (fun h2 h₁ a' => SrtO.ints_sortable hi h2) fun out h1 h2 => ?_
    obtain ⟨k1, k2, k3⟩ := SrtO.ints_out hi h1 h2
    obtain ⟨ep, he'⟩ := PyProof.Rows.sortedAll_at s.heap its out.toArray
    have hlen : ((out.map SrtO.iv).map V.int).length ≤ sizeLine := by
      rw [List.length_map, k2.length_eq]
      rw [List.length_map] at hz
      exact hz
    exact ⟨.ref _, upd H (s.heap.objs.size + 1) (.lst ((out.map SrtO.iv).map V.int)), I.laid (t' := s.toks) (fun _ _ => PyProof.Rows.sortedAll_old) (Nat.le_succ _) ⟨hlen, out, ep, vals_of_ints k1, he'⟩, rfl, q _ _ k2 k3 (I.hok.fresh (Nat.le_succ _))⟩
/-! ### the one sorted row of ints -/
def insI (a : Int) : List Int → List Int
  | [] => [a]
  | b :: r => if a ≤ b then a :: b :: r else b :: insI a r
def sortI : List Int → List Int
  | [] => []
  | a :: r => insI a (sortI r)
theorem insI_perm (a : Int) : ∀ l : List Int, (insI a l).Perm (a :: l)
  | [] => .refl _
  | b :: r => by
    unfold insI
    split
    · exact .refl _
    · exact ((insI_perm a r).cons b).trans (.swap a b r)
theorem sortI_perm : ∀ l : List Int, (sortI l).Perm l
  | [] => .refl _
  | a :: r => (insI_perm a (sortI r)).trans ((sortI_perm r).cons a)
theorem insI_sorted (a : Int) : ∀ l : List Int, l.Pairwise (· ≤ ·) → (insI a l).Pairwise (· ≤ ·)
  | [], _ => by simp [insI]
  | b :: r, h => by
    unfold insI
    have h1 := List.pairwise_cons.mp h
    split
    · rename_i hab
      refine List.pairwise_cons.mpr ⟨fun x hx => ?_, h⟩
      rcases List.mem_cons.mp hx with e | hx
      · rw [e]
        exact hab
      · exact Int.le_trans hab (h1.1 x hx)
    · rename_i hab
      refine List.pairwise_cons.mpr ⟨fun x hx => ?_, insI_sorted a r h1.2⟩
      rcases List.mem_cons.mp ((insI_perm a r).mem_iff.mp hx) with e | hx
      · rw [e]
        omega
      · exact h1.1 x hx
theorem sortI_sorted : ∀ l : List Int, (sortI l).Pairwise (· ≤ ·)
  | [] => .nil
  | a :: r => insI_sorted a _ (sortI_sorted r)
theorem sorted_one : ∀ {l m : List Int}, l.Perm m → l.Pairwise (· ≤ ·) → m.Pairwise (· ≤ ·) → l = m
  | [], m, p, _, _ => by rw [p.nil_eq]
  | a :: l, m, p, h1, h2 => by
    cases m with
    | nil => exact absurd p.length_eq (by simp)
    | cons b m =>
      have g1 := List.pairwise_cons.mp h1
      have g2 := List.pairwise_cons.mp h2
      have e : a = b := by
        have a1 : a ∈ b :: m := p.mem_iff.mp List.mem_cons_self
        have b1 : b ∈ a :: l := p.mem_iff.mpr List.mem_cons_self
        rcases List.mem_cons.mp a1 with e | a1
        · exact e
        · rcases List.mem_cons.mp b1 with e | b1
          · exact e.symm
          · have c1 := g2.1 a a1
            have c2 := g1.1 b b1
            omega
      subst e
      rw [sorted_one ((List.perm_cons a).mp p) g1.2 g2.2]
def oSorted : List O → Option O := op1 fun a => ((seqF a).bind dInts).map fun ns => .l ((sortI ns).map fun i => O.d (.int i))
theorem s_sorted {K : PySem.W.Frag} : OpS K (rSortedA K) oSorted := ops1 fun Γ σ e τ stk G H v a o Q rr h ho k => by
  cases e1 : seqF a with
  | none => rw [e1] at ho; cases ho
  | some xs =>
    rw [e1] at ho
    replace ho : (dInts xs).map (fun ns => O.l ((sortI ns).map fun i => O.d (.int i))) = some o := ho
    cases e2 : dInts xs with
    | none => rw [e2] at ho; cases ho
    | some ns =>
      rw [e2] at ho
      cases ho
      obtain ⟨p, vs, rfl, sq, rp⟩ := seqF_of rr.wd.sub h e1
      obtain rfl := dInts_of rp e2
      refine ⟨p, ns, rfl, sq, fun ns' q hp hs hq => ?_⟩
      have e3 : ns' = sortI ns := sorted_one (hp.trans (sortI_perm ns).symm) hs (sortI_sorted ns)
      subst e3
      have ri : ∀ l : List Int, Reps K G (l.map V.int) (l.map D.int) := by
        intro l
        induction l with
        | nil => exact .nil
        | cons x r ih => exact .cons (.int _) ih
      have r2 := rr.mkL (ri (sortI ns)) hq
      rw [List.map_map] at r2
      exact k _ _ _ r2
end Dn
end
section
set_option Elab.async false
set_option linter.all false
set_option maxRecDepth 100000
set_option maxHeartbeats 4000000
/-! Dn21: while an exception is handled: calls, loops over tuples. -/
namespace Dn
open PySem PySem.Spec L2 L2H HotX
open PyProof.Rows hiding St
section
variable {prog : Program} {w : World} {A : Around} {E : Value → Shared → Prop} {s : Shared}
/-- a tuple's iterator ends while x1 is handled -/
theorem tup_end_hot {it t x1 : Addr} {i : Nat} {items : Array Value} {Q : Option Value → Shared → Prop} (hot : HotAt A x1 s.heap) (hne : x1 ≠ it) (hit : s.heap.IsTupleIter it t i) (ht : s.heap.IsTuple t items) (hx : items[i]? = none)
    (hQ : ∀ h', (∀ b o, b ≠ it → s.heap.get? b = some o → h'.get? b = some o) → Q none { s with heap := h' }) : wpAny (model prog w) A (pyNext (.ref it)) Q E s := by
  obtain ⟨o, ho, hc, hd⟩ := id hit
  obtain ⟨ol, hol, _, _, hdl⟩ := ht
  obtain ⟨hh, o1, vs1, h1, d1, c1⟩ := hot
  unfold pyNext
  refine wpAny_bind (wpAny_attempt (wpAny_callSpecial?_slot (name := Str.ofString "__next__") hit.typeIs F.slot_tuple_iterator_next (wpAny_call_entry F.slot_tuple_iterator_next hit.typeIs F.entry_tuple_iterator_next ?_ (F.args_tuple_iterator_next_1 _))))
  show wpAny _ _ (field (.ref it) 0 >>= _) _ _ s
  refine wpAny_bind (wpAny_field ho hd (x := .ref t) rfl ?_)
  show wpAny _ _ (if (Value.ref t == Value.none) = true then _ else _) _ _ s
  have nn : ¬ ((Value.ref t == Value.none) = true) := Bool.false_ne_true
  rw [if_neg nn]
  show wpAny _ _ (field (.ref it) 1 >>= _) _ _ s
  refine wpAny_bind (wpAny_field ho hd (x := .int i 0) rfl ?_)
  show wpAny _ _ (seqItems? (.ref t) >>= _) _ _ s
  refine wpAny_bind (wpAny_seqItems hol hdl ?_)
  simp only [Int.toNat_natCast, hx]
  refine wpAny_bind (wpAny_rule (wpAny_bind (wpAny_setField ho hd (by simp) ?_)))
  show wpAny _ _ (newExc (.type "StopIteration") [] >>= _) _ _ _
  refine wpAny_bind ?_
  simp only [newExc, newTuple]
  refine wpAny_bind (wpAny_newObj_type ?_ (by size_fits))
  have fm : firstArgMember (.type "StopIteration") [] = pure Value.none := by first | rfl | (simp only [firstArgMember]; rfl)
  refine wpAny_bind (m := firstArgMember _ _) (wpAny_of_eq (a := Value.none) fm ?_)
  refine wpAny_newObj_type ?_ (by size_fits)
  have h2 := (Heap.get?_update_other (h := s.heap) (Obj.mapFields (·.setIfInBounds 0 Value.none)) (Ne.symm hne)).trans h1
  refine raiseNew_hot ⟨hh, o1, vs1, Heap.get?_push_of_some _ (Heap.get?_push_of_some _ h2), d1, c1⟩ (Nat.ne_of_lt (Heap.lt_size (Heap.get?_push_of_some _ h2))) (Heap.get?_push_size _ rfl) rfl (by first | (simp; done) | (simp; omega)) ?_
  refine wpAny_bind (wpAny_isInstance (T := "StopIteration") (b := true) ⟨_, Heap.get?_update_self _ (Heap.get?_push_size _ rfl) rfl, rfl⟩ isSubtype_stop ?_)
  refine wpAny_pure (hQ _ fun b u hb e => ?_)
  have e2 := (Heap.get?_update_other (h := s.heap) (Obj.mapFields (·.setIfInBounds 0 Value.none)) (Ne.symm hb)).trans e
  rw [Heap.get?_update_other _ _ (Nat.ne_of_gt (Heap.lt_size (Heap.get?_push_of_some _ e2)))]
  exact Heap.get?_push_of_some _ (Heap.get?_push_of_some _ e2)
end
theorem turn_tupleH {P : Program} {w : World} {K : PySem.W.Frag} {tg : Expr} (a it : Addr) : TurnH P w K tg (Itt K a) [it] it (fun i h => h.IsTupleIter it a i) where
  mem := List.mem_singleton.mpr rfl
  obj := fun i h st b hb => by
    rw [List.mem_singleton.mp hb]
    obtain ⟨o, e, _, d⟩ := st
    exact ⟨o, e, fun v z => by rw [d] at z; cases z⟩
  keep := fun i h h' st k => st.at fun o e => k it (List.mem_singleton.mpr rfl) o e
  item := by
    intro X hP hw hK _ i pins s σ H E I hf st hg
    subst hP hw hK
    obtain ⟨xs, x, hq, hx⟩ := hg
    obtain ⟨its, rv, p, _⟩ := I.tuple hq
    obtain ⟨u, hu, ru⟩ := rv.get hx
    obtain ⟨f0, f1, _, f3, f4, f5⟩ := hf it (List.mem_singleton.mpr rfl)
    have pt : s.heap.IsTuple a its.toArray := p
    refine wpAny_pyNext_tuple_item st pt (x := u) (by simpa using hu) fun h' st' sb => ?_
    have I1 : Inv X pins σ H { s with heap := h', toks := s.toks } := I.turned (t' := s.toks) (fun b o hb e => (sb.2 b hb).trans e) f0 f1 f3 f4 f5
    obtain ⟨o, e, c, d⟩ := id st'
    refine ⟨u, rfl, go_of (s := { s with heap := h' }) e c d (by decide) ⟨x, H, I1, ru, ⟨rfl, fun ys hy => ?_⟩, st', fun b hb => (hf b hb).1⟩⟩
    rw [I.tuple_inj hy hq]
    exact hx
  done := by
    intro X hP hw hK hc i pins s σ H E I hf st hg
    subst hP hw hK
    obtain ⟨xs, hq, hx⟩ := hg
    obtain ⟨its, rv, p, _⟩ := I.tuple hq
    obtain ⟨f0, f1, _, f3, f4, f5⟩ := hf it (List.mem_singleton.mpr rfl)
    have hl := rv.length
    have pt : s.heap.IsTuple a its.toArray := p
    obtain ⟨q, ⟨hh, vs, hd, hv⟩, hm⟩ := hc
    have hp := I.pin q (List.mem_append_left _ hm)
    exact tup_end_hot ⟨hh, q.2, vs, hp.1, hd, hv⟩ (f5 q (List.mem_append_left _ hm)) st pt (by simp; omega) fun h' eb => ⟨rfl, I.turned (t' := s.toks) (fun b o hb e => eb b o hb e) f0 f1 f3 f4 f5⟩
  self := fun _ _ _ _ _ st h => wpAny_pyIter_tupleiter st h
section
variable {X : Cx} {W : WX} {np : Asm} {K : PySem.W.Frag} {mg : Str → Option Value}
theorem pi_tupH {tg l : Expr} {tl : TE} (hl : PE X l tl) : PIH X tg l (iTup X.K tl) := by
  refine ⟨fun pins s σ H R I h => thn (hl.run pins s σ H _ I h) fun v s1 got => ?_⟩
  obtain ⟨x, H1, I1, r1, a, e, ⟨xs, hq⟩, q⟩ := got
  subst e
  cases r1
  obtain ⟨its, _, p, _⟩ := I1.tuple hq
  have pt : s1.heap.IsTuple a its.toArray := p
  refine wpAny_pyIter_tuple pt ?_
  refine ⟨s1.heap.objs.size, [s1.heap.objs.size], _, _, H1, rfl, I1.kept (t' := s1.toks) fun b o e => Heap.get?_push_of_some _ e, turn_tupleH a _, ⟨_, Heap.get?_push_size _ rfl, rfl, rfl⟩, fun b hb => ?_, q⟩
  rw [List.mem_singleton.mp hb]
  exact I1.fpOk (Nat.le_refl _) (I1.hok.fresh (Nat.le_refl _))
structure DIH (X : Cx) (W : WX) (np : Asm) (tg it : Expr) (m : Env → Rs (List D)) : Prop where
  ex : ∃ t, PIH X tg it t ∧ ISnd X.K X.mg W np t m
theorem dih_tup {tg e : Expr} {m : ME} (h : DE X W np e m) : DIH X W np tg e (mIt itT m) := by
  obtain ⟨t, p, s⟩ := h.ex
  refine ⟨_, pi_tupH p, fun Γ σ env τ stk G H Q hp r h => s Γ σ env τ stk G H _ hp r ((mIt_q h).imp fun o e ⟨xs, e1, q⟩ v G' H' r' => ?_)⟩
  obtain ⟨G2, r2⟩ := r'.frz
  obtain ⟨a, vs, rfl, sq, rp⟩ := itT_of r2.topD e1
  exact ⟨a, rfl, ⟨vs, r2.wd.sub.sqT sq⟩, q _ G2 H' r2.pop (wk_at walk_tup rp rfl fun G H s1 s2 => s2.sqT (s1.sqT sq))⟩
theorem ds_forH {tg it : Expr} {body : List Stmt} {mi : Env → Rs (List D)} {g : MG} {mb : MS} {pos : Pos} (po : PassesOwn (model X.prog X.w) X.A X.env X.xe) (hot : HotC X) (hi : DIH X W np tg it mi) (hg : DG X np tg g) (hb : DSs X W np body mb) (hs : ∀ x, foldedSetIterable it X.env x = pure x := by intro _; rfl) : DS X W np (.For tg it body [] pos) (mFor mi g mb) := by
  obtain ⟨t, p, s⟩ := hi.ex
  obtain ⟨u, q, z⟩ := hg.ex
  obtain ⟨v, p', s'⟩ := hb.ex
  exact ⟨_, ps_forH po hot p q p' hs, ssnd_for s z s'⟩
theorem _root_.L2H.RoomH.units {k : Nat} {A : Around} (r : RoomH k A) : A.units + 64 < cLine := by
  have := r.un
  omega
theorem pvI {X : Cx} {sc : Scope} {N : List Str} {n : Str} {p : Pos} (i : Nat) (h1 : X.env.scope = sc) (h2 : X.N = N) (hN : N[i]? = some n) (hv : Vis sc n) (hd : (n == ("__debug__" : Str)) = false := by decide) (hcd : (n == ("__classdict__" : Str)) = false := by decide) : PE X (.Name n p) (tVar i) := by
  subst h1 h2
  exact pe_var hN hv hd hcd
/-- what is not reached -/
theorem de_never {e : Expr} : DE X W np e (fun _ => .fail) := ⟨fun _ _ _ => False, ⟨fun _ _ _ _ _ _ h => h.elim⟩, fun _ _ _ _ _ _ _ _ _ _ h => h.elim⟩
theorem ds_never {st : Stmt} : DS X W np st (fun _ => .fail) := ⟨fun _ _ _ => False, ⟨fun _ _ _ _ _ _ h => h.elim⟩, fun _ _ _ _ _ _ _ _ h => h.elim⟩
/-- the exception that a suite handles -/
theorem hot_suite {a : Addr} {oe : Obj} {pn : List (Addr × Obj)} {cls : Value} {d : Option Addr} (hz : L2N.Zn cls d oe) (hf : ∃ vs, oe.data = .fields vs) : HotC (X.suite a ((a, oe) :: pn)) := by
  obtain ⟨vs, e⟩ := hf
  exact ⟨(a, oe), ⟨rfl, vs, e, hz.2.2 vs e⟩, List.mem_cons_self⟩
/-- a def's promise while an exception is handled -/
theorem ok_defH {P : Program} {w : World} {base : Heap} {x qual : Str} {st : Stmt} {f : Addr} {fd : FuncData} {N ps : List Str} {k : Nat} {m : MS} (np : List Nat) (F : Fun K x qual st f fd) (S : FnScope N ps (defScope st))
    (hbody : ∀ (cdv : Value) (A : Around) (outer : List PySem.Env) (s : Shared) (H : Hp) (E : XK) (p : Addr × Obj), RoomH k (A.deeper (envOfC qual (defScope st) s.heap.objs.size f cdv)) → HotC (cxH (L2N.CX P w) P w K mg base N qual (defScope st) f cdv A outer s H E p) →
      DSs (cxH (L2N.CX P w) P w K mg base N qual (defScope st) f cdv A outer s H E p) (fun c d _ H => E c d H) (asm np) (defBody st) m) : FnH P w K mg base (L2N.CX P w) (k + 1) f fd ps (FP K mg ps.length (fnD np N.length m)) := by
  obtain ⟨_, _, _, _, _, _, v7, _, _, rfl, l, c⟩ := F.ex
  exact fn_ofH l c S (fun vs H Q E h => h.1) fun A outer s H vs Q E p hot hr h => def_core (hbody v7 A outer s H E p hr ⟨p, hot, List.mem_singleton.mpr rfl⟩) h
theorem de_callH {k n : Nat} {g : Addr} {fd : FuncData} {ps : List Str} {f : List O → FR} {x : Str} {e : Expr} {es : List Expr} {p pos : Pos} {ks : List AK} (F : FnH X.prog X.w X.K X.mg X.base (L2N.CX X.prog X.w) k g fd ps (FP X.K X.mg n f)) (hr : RoomH k X.A) (hot : HotC X) (hm : X.mg x = some (.ref g)) (hk : PySem.W.keepIn X.K (.ref g) = true) (hb : Binds X.K fd ps [])
    (tk : L2N.Takes X W) (ha : DA X W np (e :: es) ks) (hn : ks.length = n := by rfl) (hg : Gl X x := by rfl) (hdb : (x == ("__debug__" : Str)) = false := by decide) (he : starEach (e :: es) X.env = (false, eval e X.env) :: starEach es X.env := by rfl) (hpl : (backTo pos (starEach es X.env)).any (·.1) = false := by rfl) :
    DE X W np (.Call (.Name x p) (e :: es) [] pos) (mCall f ks) := by
  obtain ⟨t, q, s⟩ := ha.ex
  exact ⟨_, pe_callH F hr hot hg hm hk hb (fun σ => L2N.passAt tk σ) q hdb (by exact he) (by exact hpl), esnd_call hn s⟩
end
end Dn
end
section
set_option Elab.async false
set_option linter.all false
set_option maxRecDepth 100000
set_option maxHeartbeats 4000000
/-! Dn22: the law's head. -/
namespace Dn
open PySem PySem.Spec L2 L2H
open PyProof.Rows hiding St
theorem kwb_of {K : PySem.W.Frag} {x qual : Str} {st : Stmt} {f : Addr} {fd : FuncData} {ps : List Str} (F : Fun K x qual st f fd)
    (h : ∀ (kV doc pm : Value) (an : Option Addr) (cdv ct : Value) (us : List Value), us.length = ps.length → bindArgs (PySem.W.fnOf x qual (defArgs st) (defBody st) (defScope st) .none kV doc pm an cdv ct) ⟨[], ps.zip us⟩ = pure (ps.zip us)) : KwB K fd ps := by
  obtain ⟨_, _, a, b, c, d, e, g, _, rfl, _, _⟩ := F.ex
  exact ⟨fun s ws _ hl => .of_eq (h a b c d e g ws hl)⟩
/-- law's promise: a list of at most 63 ints is handed in, True comes out -/
def spLaw (K : PySem.W.Frag) : Sp := fun vs H Q _ => ∃ (a : Addr) (ns : List Int), vs = [.ref a] ∧ SqL K H a (ns.map V.int) ∧ ns.length ≤ 63 ∧ ∀ H', Q (.bl true) H'
theorem law_imp {K : PySem.W.Frag} {mg : Str → Option Value} {f : List O → FR} (plain : ∀ ns : List Int, ns.length ≤ 63 → ∃ as, f [.d (.scr (ns.map D.int))] = .ok (.d (.bl true)) as) : ∀ vs H Q E, spLaw K vs H Q E → FP K mg 1 f vs H Q E := by
  rintro vs H Q E ⟨a, ns, rfl, sq, hl, q⟩
  obtain ⟨as, e⟩ := plain ns hl
  have ri : ∀ l : List Int, Reps K H (l.map V.int) (l.map D.int) := by
    intro l
    induction l with
    | nil => exact .nil
    | cons x r ih => exact .cons (.int _) ih
  refine ⟨rfl, [.d (.scr (ns.map D.int))], [], H, Sub.refl H, ?_, List.nodup_nil, ?_⟩
  · exact .cons (f := []) (.d (.scr sq (ri ns))) .nil
  · rw [e]
    intro v G' H' r
    cases r.topD
    exact q H'
/-- a class of exceptions as the top writes it -/
def clsX (K : PySem.W.Frag) (C : Addr) : Bool := match K.lookup C with
  | some ⟨.type "type", _, .cls cd, sl⟩ => (match cd.mro, sl.toList with
    | .ref D :: bm, [_, _, _, _, some (.builtin n), _] => decide (D = C) && (decide (n = "ValueError.__new__") && (cd.hasDict && (!cd.hasDel && PySem.HandSPX.refsVE bm)))
    | _, _ => false)
  | _ => false
theorem oexC_of {K : PySem.W.Frag} {C : Addr} (h : clsX K C = true) (h1 : PySem.W.findIn K (.ref C) "__setattr__" = some (some (.builtin "object.__setattr__"))) (h2 : PySem.W.subIn K (.ref C) (.type "BaseException") = some true) (h3 : PySem.W.typeIn K (.ref C) = some (.type "type")) (h4 : PySem.W.keepIn K (.ref C) = true) : OexC K C := by
  refine ⟨?_, h1, h2, h3, h4⟩
  unfold clsX at h
  split at h
  · rename_i dd cd sl e
    split at h
    · rename_i D bm k0 k1 k2 k3 n k5 em es
      obtain ⟨x1, h⟩ := Bool.and_eq_true_iff.mp h
      obtain ⟨x2, h⟩ := Bool.and_eq_true_iff.mp h
      obtain ⟨x3, h⟩ := Bool.and_eq_true_iff.mp h
      obtain ⟨x4, x5⟩ := Bool.and_eq_true_iff.mp h
      obtain rfl := of_decide_eq_true x1
      obtain rfl := of_decide_eq_true x2
      obtain ⟨nm, bs, mro, ns, qn, hd, sn, sb, ab, col, del⟩ := cd
      dsimp only at em x3 x4
      subst em x3
      have x6 : del = false := by simpa using x4
      subst x6
      have e5 : sl = #[k0, k1, k2, k3, some (.builtin "ValueError.__new__"), k5] := by
        rw [← Array.toArray_toList (xs := sl), es]
      subst e5
      exact ⟨nm, qn, ns, bs, bm, sn, sb, ab, col, dd, k0, k1, k2, k3, k5, e, x5⟩
    · cases h
  · cases h
theorem cxN_no {P : Program} {w : World} {outer : List PySem.Env} {H : Hp} {s : Shared} {e : Value} {s' : Shared} (h : L2N.CX P w outer H s (fun _ _ _ => False) e s') : False := by
  obtain ⟨_, _, _, _, _, _, _, _, _, _, _, _, z⟩ := h
  exact z
end Dn
end
section
set_option Elab.async false
set_option linter.all false
set_option maxRecDepth 100000
set_option maxHeartbeats 4000000
/-! Dn23: min, max, index of a tuple of ints; one of two readings. -/
namespace Dn
open PySem PySem.Spec L2 L2H
open PyProof.Rows hiding St
section
variable {X : Cx} {W : WX} {np : Asm} {K : PySem.W.Frag} {mg : Str → Option Value}
/-- the first reading that does not fail -/
def mAlt (m1 m2 : ME) : ME := fun env => match m1 env with
  | .fail => m2 env
  | r => r
theorem de_alt {e : Expr} {m1 m2 : ME} (h1 : DE X W np e m1) (h2 : DE X W np e m2) : DE X W np e (mAlt m1 m2) := by
  obtain ⟨t1, p1, s1⟩ := h1.ex
  obtain ⟨t2, p2, s2⟩ := h2.ex
  refine ⟨fun σ H Q => t1 σ H Q ∨ t2 σ H Q, ⟨fun pins s σ H Q I h => ?_⟩, fun Γ σ env τ stk G H Q hp r h => ?_⟩
  · rcases h with h | h
    · exact p1.run pins s σ H Q I h
    · exact p2.run pins s σ H Q I h
  · unfold mAlt at h
    cases q : m1 env with
    | ok o e =>
      simp only [q] at h
      exact .inl (s1 Γ σ env τ stk G H Q hp r (by rw [q]; exact h))
    | exc x e =>
      simp only [q] at h
      exact .inl (s1 Γ σ env τ stk G H Q hp r (by rw [q]; exact h))
    | fail =>
      simp only [q] at h
      exact .inr (s2 Γ σ env τ stk G H Q hp r h)
end
section
variable {prog : Program} {w : World} {A : Around} {E : Value → Shared → Prop} {s : Shared} {l : Addr} {its : List Value} {ns : List Int} {Q : Value → Shared → Prop}
theorem min_tup (hh : A.handled = none) (hl : IsTup s.heap l its.toArray) (hi : IntsAre its ns) (hne : 0 < ns.length)
    (h : ∀ h' tk M t', (∀ b o, s.heap.get? b = some o → h'.get? b = some o) → M ∈ ns → (∀ a, a ∈ ns → M ≤ a) → Q (.int M t') { s with heap := h', toks := tk }) : wpAny (model prog w) A (call (.builtin "min") [.ref l]) Q E s := by
  obtain ⟨xs, e⟩ := hi.allInts.items
  have hn : numsOf (intItems xs).toList = ns := by rw [← e]; exact hi.numsOf
  rw [nums_intItems] at hn
  subst hn
  rw [e] at hl
  have pt : s.heap.IsTuple l (intItems xs) := hl
  obtain ⟨o, ho, _⟩ := id pt
  have lt := Heap.lt_size ho
  have hsz : 0 < xs.size := by simpa using hne
  refine call_min_walk (wpAny_pyIter_tuple pt ⟨_, _, _, _, _, _, _, rfl, Walks.tuple (A := A.in1) hh _ l (Nat.ne_of_lt lt) (intItems xs), ⟨⟨_, Heap.get?_push_size _ rfl, rfl, rfl⟩, pt.push _⟩, fun b hb => ?_, by simpa [intItems] using hsz, CmpOf.ints_lt (numAt xs) (fun _ _ => intItems_at), fun v h' tk hP hk => ?_⟩)
  · show b < (s.heap.push _).objs.size
    rw [Heap.size_push]
    rcases List.mem_cons.mp hb with rfl | hb
    · exact Nat.lt_succ_self _
    · rw [List.mem_singleton.mp hb]
      exact Nat.lt_succ_of_lt lt
  · have hv : (intItems xs)[argBest (fun i j => decide (numAt xs i < numAt xs j)) (xs.size - 1)]? = some v := by simpa [intItems] using hP
    obtain ⟨t, rfl⟩ := intItems_at hv
    obtain ⟨h1, h2⟩ := argBest_lt (numAt xs) (xs.size - 1)
    refine h h' tk _ t (fun b u q => hk b u (fun hm => ?_) (Heap.get?_push_of_some _ q)) ?_ fun a ha => ?_
    · rw [List.mem_singleton.mp hm] at q
      exact absurd (Heap.lt_size q) (Nat.lt_irrefl _)
    · rw [numAt_eq]
      exact PySem.getD_mem (by rw [List.length_map, Array.length_toList]; omega)
    · obtain ⟨j, hj, rfl⟩ := mem_getD ha
      rw [List.length_map, Array.length_toList] at hj
      rw [← numAt_eq]
      exact h2 j (by omega)
theorem max_tup (hh : A.handled = none) (hl : IsTup s.heap l its.toArray) (hi : IntsAre its ns) (hne : 0 < ns.length)
    (h : ∀ h' tk M t', (∀ b o, s.heap.get? b = some o → h'.get? b = some o) → M ∈ ns → (∀ a, a ∈ ns → a ≤ M) → Q (.int M t') { s with heap := h', toks := tk }) : wpAny (model prog w) A (call (.builtin "max") [.ref l]) Q E s := by
  obtain ⟨xs, e⟩ := hi.allInts.items
  have hn : numsOf (intItems xs).toList = ns := by rw [← e]; exact hi.numsOf
  rw [nums_intItems] at hn
  subst hn
  rw [e] at hl
  have pt : s.heap.IsTuple l (intItems xs) := hl
  obtain ⟨o, ho, _⟩ := id pt
  have lt := Heap.lt_size ho
  have hsz : 0 < xs.size := by simpa using hne
  refine call_max_walk (wpAny_pyIter_tuple pt ⟨_, _, _, _, _, _, _, rfl, Walks.tuple (A := A.in1) hh _ l (Nat.ne_of_lt lt) (intItems xs), ⟨⟨_, Heap.get?_push_size _ rfl, rfl, rfl⟩, pt.push _⟩, fun b hb => ?_, by simpa [intItems] using hsz, CmpOf.ints_gt (numAt xs) (fun _ _ => intItems_at), fun v h' tk hP hk => ?_⟩)
  · show b < (s.heap.push _).objs.size
    rw [Heap.size_push]
    rcases List.mem_cons.mp hb with rfl | hb
    · exact Nat.lt_succ_self _
    · rw [List.mem_singleton.mp hb]
      exact Nat.lt_succ_of_lt lt
  · have hv : (intItems xs)[argBest (fun i j => decide (numAt xs i > numAt xs j)) (xs.size - 1)]? = some v := by simpa [intItems] using hP
    obtain ⟨t, rfl⟩ := intItems_at hv
    obtain ⟨h1, h2⟩ := argBest_gt (numAt xs) (xs.size - 1)
    refine h h' tk _ t (fun b u q => hk b u (fun hm => ?_) (Heap.get?_push_of_some _ q)) ?_ fun a ha => ?_
    · rw [List.mem_singleton.mp hm] at q
      exact absurd (Heap.lt_size q) (Nat.lt_irrefl _)
    · rw [numAt_eq]
      exact PySem.getD_mem (by rw [List.length_map, Array.length_toList]; omega)
    · obtain ⟨j, hj, rfl⟩ := mem_getD ha
      rw [List.length_map, Array.length_toList] at hj
      rw [← numAt_eq]
      exact h2 j (by omega)
end
section
variable {X : Cx} {K : PySem.W.Frag}
def rMinA (K : PySem.W.Frag) : List V → Hp → VK → Prop := fun vs H Q => ∃ (a : Addr) (ns : List Int), vs = [V.ref a] ∧ (SqL K H a (ns.map V.int) ∨ SqT K H a (ns.map V.int)) ∧ 0 < ns.length ∧ ∀ m, m ∈ ns → (∀ y, y ∈ ns → m ≤ y) → Q (.int m) H
def rMaxA (K : PySem.W.Frag) : List V → Hp → VK → Prop := fun vs H Q => ∃ (a : Addr) (ns : List Int), vs = [V.ref a] ∧ (SqL K H a (ns.map V.int) ∨ SqT K H a (ns.map V.int)) ∧ 0 < ns.length ∧ ∀ m, m ∈ ns → (∀ y, y ∈ ns → y ≤ m) → Q (.int m) H
theorem cr_minA (hc : X.calm = true) : CallR X (.builtin "min") (rMinA X.K) := by
  intro pins s σ H vs us Q I r h
  obtain ⟨a, ns, rfl, hs, hne, q⟩ := h
  rcases hs with hs | hs
  · exact cr_min hc pins s σ H _ us Q I r ⟨a, ns, rfl, hs, hne, q⟩
  · obtain ⟨its, rv, hl, _⟩ := I.tuple hs
    rw [Vals.ref1 r]
    exact min_tup (I.ok.hd hc) hl rv.ints hne fun h' tk m t' hk h1 h2 => ⟨.int m, H, I.kept hk, ⟨t', rfl⟩, q m h1 h2⟩
theorem cr_maxA (hc : X.calm = true) : CallR X (.builtin "max") (rMaxA X.K) := by
  intro pins s σ H vs us Q I r h
  obtain ⟨a, ns, rfl, hs, hne, q⟩ := h
  rcases hs with hs | hs
  · exact cr_max hc pins s σ H _ us Q I r ⟨a, ns, rfl, hs, hne, q⟩
  · obtain ⟨its, rv, hl, _⟩ := I.tuple hs
    rw [Vals.ref1 r]
    exact max_tup (I.ok.hd hc) hl rv.ints hne fun h' tk m t' hk h1 h2 => ⟨.int m, H, I.kept hk, ⟨t', rfl⟩, q m h1 h2⟩
def oMinA : List O → Option O := op1 fun a => ((seqF a).bind dInts).bind fun ns => (fMin ns).map O.d
def oMaxA : List O → Option O := op1 fun a => ((seqF a).bind dInts).bind fun ns => (fMax ns).map O.d
theorem s_minA : OpS K (rMinA K) oMinA := ops1 fun Γ σ e τ stk G H v a o Q rr h ho k => by
  cases e1 : seqF a with
  | none => simp [e1] at ho
  | some xs =>
    cases e2 : dInts xs with
    | none => simp [e1, e2] at ho
    | some ns =>
      cases ns with
      | nil => simp [e1, e2, fMin] at ho
      | cons m r =>
        simp [e1, e2, fMin] at ho
        subst ho
        obtain ⟨p, vs, rfl, sq, rp⟩ := seqF_of rr.wd.sub h e1
        obtain rfl := dInts_of rp e2
        refine ⟨p, m :: r, rfl, sq, Nat.zero_lt_succ _, fun z h1 h2 => ?_⟩
        obtain ⟨g1, g2, g3⟩ := minI_spec r m
        have gm : minI m r ∈ m :: r := g1.elim (fun e => by rw [e]; exact List.mem_cons_self) (List.mem_cons_of_mem _)
        have a1 := h2 _ gm
        have a2 : minI m r ≤ z := by
          rcases List.mem_cons.mp h1 with e | h1
          · rw [e]
            exact g2
          · exact g3 z h1
        have e3 : z = minI m r := Int.le_antisymm a1 a2
        rw [e3]
        exact k _ G H (rr.pushD (.int _))
theorem s_maxA : OpS K (rMaxA K) oMaxA := ops1 fun Γ σ e τ stk G H v a o Q rr h ho k => by
  cases e1 : seqF a with
  | none => simp [e1] at ho
  | some xs =>
    cases e2 : dInts xs with
    | none => simp [e1, e2] at ho
    | some ns =>
      cases ns with
      | nil => simp [e1, e2, fMax] at ho
      | cons m r =>
        simp [e1, e2, fMax] at ho
        subst ho
        obtain ⟨p, vs, rfl, sq, rp⟩ := seqF_of rr.wd.sub h e1
        obtain rfl := dInts_of rp e2
        refine ⟨p, m :: r, rfl, sq, Nat.zero_lt_succ _, fun z h1 h2 => ?_⟩
        obtain ⟨g1, g2, g3⟩ := maxI_spec r m
        have gm : maxI m r ∈ m :: r := g1.elim (fun e => by rw [e]; exact List.mem_cons_self) (List.mem_cons_of_mem _)
        have a1 := h2 _ gm
        have a2 : z ≤ maxI m r := by
          rcases List.mem_cons.mp h1 with e | h1
          · rw [e]
            exact g2
          · exact g3 z h1
        have e3 : z = maxI m r := Int.le_antisymm a2 a1
        rw [e3]
        exact k _ G H (rr.pushD (.int _))
theorem flat_ints (ns : List Int) : (ns.map V.int).all flatV = true := by
  rw [List.all_map]
  exact List.all_eq_true.mpr fun _ _ => rfl
def rTIdx (K : PySem.W.Frag) : V → List V → Hp → VK → Prop := fun x xs H Q => ∃ (p : Addr) (ns : List Int) (z : Int) (j : Nat), x = .ref p ∧ xs = [.int z] ∧ SqT K H p (ns.map V.int) ∧ ns[j]? = some z ∧ (∀ m, m < j → ns[m]? ≠ some z) ∧ Q (.int (j : Nat)) H
theorem mt_tidx : MtR X "tuple.index" (rTIdx X.K) := by
  intro pins s σ H x xs v us Q I rx rs h
  obtain ⟨p, ns, z, j, rfl, rfl, hq, hy, hno, q⟩ := h
  cases rx
  obtain ⟨_, rfl, t, rfl⟩ := vals1 rs
  obtain ⟨its, r, pl, _⟩ := I.tuple hq
  obtain ⟨⟨cls, dd, dt, sl⟩, ho, hc, n, hd⟩ := pl
  obtain rfl := hc
  obtain rfl := hd
  have hl : its.toArray.size = ns.length := by
    rw [List.size_toArray, ← r.length, List.length_map]
  have hj : j < its.toArray.size := by
    rw [hl]
    exact (List.getElem?_eq_some_iff.mp hy).1
  have val : ∀ (m : Nat) (hm : m < its.toArray.size), ∃ y u, ns[m]? = some y ∧ its.toArray[m] = Value.int y u := fun m hm => by
    have hm2 : m < ns.length := by omega
    obtain ⟨w, hw, u, e⟩ := r.get (i := m) (x := .int ns[m]) (by simp [hm2])
    refine ⟨ns[m], u, List.getElem?_eq_getElem hm2, ?_⟩
    have e2 := (List.getElem?_eq_some_iff.mp hw).2
    rw [← e, ← e2]
    simp
  have look := TI.tuple_indexAt p its.toArray n dd sl (.int z t) (eqU (.int z)) j hj (by
    obtain ⟨y, u, h1, h2⟩ := val j hj
    rw [hy] at h1
    cases h1
    rw [h2]
    exact beq_self_eq_true z) (fun m hm hmj => by
    obtain ⟨y, u, h1, h2⟩ := val m hm
    rw [h2]
    exact beq_eq_false_iff_ne.mpr fun e => hno m hmj (e ▸ h1))
  exact call_meets PySem.F.slot_tuple_index ⟨_, ho, rfl⟩ PySem.F.entry_tuple_index (PySem.F.args_tuple_index_2 _ _) look ⟨ho, fun w hw => mem_eqAt (x := .int z) ⟨t, rfl⟩ rfl r (flat_ints ns) w (by simpa using hw), ⟨.int (j : Nat), H, I.tok _, ⟨_, rfl⟩, q⟩⟩
def oTIdx : List O → Option O
  | [a, b] => match (tupF a).bind dInts, asI b with
    | some ns, some x => (findI x ns 0).map fun n => .d (.int n)
    | _, _ => none
  | _ => none
theorem s_tidx : LookS K (rTIdx K) oTIdx := by
  intro Γ σ e τ stk G H v o vs os z Q rr hv ha hf k
  match ha with
  | .nil => cases hf
  | .cons _ (.cons _ _) => cases hf
  | @OAll.cons _ _ _ w b _ _ hb .nil =>
    cases e1 : tupF o with
    | none => simp [oTIdx, e1] at hf
    | some xs =>
      cases e2 : dInts xs with
      | none => simp [oTIdx, e1, e2] at hf
      | some ns =>
        cases e3 : asI b with
        | none => simp [oTIdx, e1, e2, e3] at hf
        | some x =>
          cases e4 : findI x ns 0 with
          | none => simp [oTIdx, e1, e2, e3, e4] at hf
          | some n =>
            simp [oTIdx, e1, e2, e3, e4] at hf
            subst hf
            obtain rfl := orep_int hb e3
            obtain ⟨a, ws, rfl, sq, rp, _⟩ := tupF_of rr.wd.sub hv e1
            obtain rfl := dInts_of rp e2
            obtain ⟨h1, h2, h3⟩ := findI_spec e4
            rw [Nat.sub_zero] at h2 h3
            refine ⟨a, ns, x, n, rfl, rfl, sq, h2, fun m hm hz => ?_, k _ G H (rr.pushD (.int _))⟩
            obtain ⟨y, hy, hne⟩ := h3 m hm
            rw [hy] at hz
            cases hz
            exact hne rfl
end
end Dn
end
section
set_option Elab.async false
set_option linter.all false
set_option maxRecDepth 100000
set_option maxHeartbeats 4000000
/-! Dn24: tuple(list) of which it is known that it has no dict; what a call hands back is made plain. -/
namespace Dn
open PySem PySem.Spec L2 L2H
open PyProof.Rows hiding St
section
variable {X : Cx} {W : WX} {np : Asm} {K : PySem.W.Frag} {mg : Str → Option Value}
def rTupN (K : PySem.W.Frag) : List V → Hp → VK → Prop := fun xs H Q => ∃ (p : Addr) (ys : List V), xs = [.ref p] ∧ SqL K H p ys ∧ ∀ (l : Addr) (ob : Obj), H l = none → ob.dict = none → Q (.ref l) (upd H l (.frz ob (.tup ys)))
theorem cr_tupN : CallR X (.type "tuple") (rTupN X.K) := by
  intro pins s σ H xs us Q I r h
  obtain ⟨p, ys, rfl, hq, q⟩ := h
  obtain ⟨u, rfl, rx⟩ := vals1 r
  cases rx
  obtain ⟨its, r', pl, hz⟩ := I.list hq
  have hlen := r'.length
  refine call_tuple_list pl.isList (fun h' kp => ?_) (by simp only [List.size_toArray] <;> omega)
  have I1 : Inv X pins σ H { s with heap := h' } := I.kept (t' := s.toks) kp
  have I2 : Inv X pins σ (upd H h'.objs.size (.frz { cls := .type "tuple", data := .seq its.toArray } (.tup ys))) { s with heap := h'.push { cls := .type "tuple", data := .seq its.toArray } } :=
    I1.laid (t' := s.toks) (fun b o e => Heap.get?_push_of_some _ e) (Nat.le_refl _) (show ObjOk X.prog X.w _ _ _ (.frz { cls := .type "tuple", data := .seq its.toArray } (.tup ys)) from ⟨Heap.get?_push_size _ rfl, hz, its, r', IsTup.new _ _⟩)
  exact ⟨.ref h'.objs.size, _, I2, rfl, q _ _ (I1.hok.fresh (Nat.le_refl _)) rfl⟩
def toTupN (a : O) : Option O := (lstF a).map O.t
theorem s_tupN : OpS K (rTupN K) (op1 toTupN) := ops1 fun Γ σ e τ stk G H v a o Q rr h ho k => by
  unfold toTupN at ho
  cases e2 : lstF a with
  | none => rw [e2] at ho; cases ho
  | some xs =>
    rw [e2] at ho
    cases ho
    obtain ⟨p, vs, rfl, sq, rp⟩ := lstF_of rr.wd.sub h e2
    refine ⟨p, vs, rfl, sq, fun l ob hl hd => k _ (upd G l (.frz ob (.tup vs))) _ ?_⟩
    obtain ⟨r1, sg⟩ := rr.newG (o := .frz ob (.tup vs)) hl
    obtain ⟨f1, f2, c, s, n, m⟩ := r1.ex
    exact ⟨r1.wd, r1.pin, f1, [] ++ f2, c, .cons (.t upd_same hd (rp.mono sg)) s, by simpa using n, by simpa using m⟩
/-- what is known of a tuple beyond its items is forgotten -/
def dnO : O → O
  | .t xs => .d (.tup xs)
  | o => o
def mDn (m : ME) : ME := fun env => match m env with
  | .ok o e => .ok (dnO o) e
  | r => r
theorem R.dn {Γ : Ctx} {σ : L2.St} {env : Env} {τ : List (Option V)} {stk : Env} {G H : Hp} {v : V} {o : O} (r : R K Γ σ env (some v :: τ) (some o :: stk) G H) : R K Γ σ env (some v :: τ) (some (dnO o) :: stk) G H := by
  cases o with
  | d x => exact r
  | l os => exact r
  | t xs =>
    obtain ⟨f1, f2, c, s, n, m⟩ := r.ex
    cases s with
    | cons q s =>
      cases q with
      | t h g rp => exact ⟨r.wd, r.pin, f1, _, c, .cons (.d (.tup (.inl (.inr ⟨_, h⟩)) rp)) s, n, m⟩
theorem de_dn {e : Expr} {m : ME} (h : DE X W np e m) : DE X W np e (mDn m) := by
  obtain ⟨t, p, s⟩ := h.ex
  refine ⟨t, p, fun Γ σ env τ stk G H Q hp r h => s Γ σ env τ stk G H Q hp r ?_⟩
  unfold mDn at h
  cases q : m env with
  | ok o e =>
    simp only [q] at h
    exact fun v G' H' r' => h v G' H' r'.dn
  | exc x e =>
    simp only [q] at h
    exact h
  | fail =>
    simp only [q] at h
    exact h
end
end Dn
end
section
set_option Elab.async false
set_option linter.all false
set_option maxRecDepth 100000
set_option maxHeartbeats 4000000
/-! Dn26: name op= e over ints; keywords in any order. -/
namespace Dn
open PySem PySem.Spec L2 L2H
open PyProof.Rows hiding St
section
variable {X : Cx} {W : WX} {np : Asm} {K : PySem.W.Frag} {mg : Str → Option Value}
theorem iop_mulA {X : Cx} : OpR X (inplaceOp .Mult) (rI CMulA fun i j => .int (i * j)) := opI fun _ _ _ _ _ _ _ hc q => imul_int q (hc.elim CMulW.ok CMul.ok)
/-- name op= e, the name holds an int -/
def mAug (i : Nat) (f : List O → Option O) (m : ME) : MS := fun env => match env[i]? with
  | some (some (.d (.int a))) => onE (m env) fun o e => match f [.d (.int a), o] with
    | some z => putE i z e
    | none => .fail
  | _ => .fail
theorem ds_aug {i : Nat} {x : Str} {op : Operator} {r : R2} {f : List O → Option O} {e : Expr} {m : ME} {pos pos' : Pos} (hN : X.N.Nodup) (ho : OpR X (inplaceOp op) r) (hs : OpS X.K (r2 r) f) (h : DE X W np e m) (hi : i ∉ np.np := by decide) (hx : X.N[i]? = some x := by rfl) (hl : Loc X.env.scope x := by first | exact Or.inl rfl | exact Or.inr rfl) (hf : X.fn x = true ∨ X.env.scope.names.lookup x = some .local := by first | exact .inl rfl | exact .inr rfl) :
    DS X W np (.AugAssign (.Name x pos') op e pos) (mAug i f m) := by
  obtain ⟨t, p, s⟩ := h.ex
  refine ⟨_, ps_aug hN hx hl p (ti := r) (fun pins s σ H x y v u Q I rx ry q => ho pins s σ H x y v u Q I rx ry q) hf, fun Γ σ env G H D hp rr h => ?_⟩
  unfold mAug at h
  split at h
  · rename_i a ha
    obtain ⟨v, e1, rv⟩ := rr.slotD ha
    cases rv
    refine ⟨.int a, e1, s Γ σ env [] [] G H _ hp rr ((onE_q h).imp fun o e q w G' H' r' => ?_)⟩
    cases e3 : f [.d (.int a), o] with
    | none => simp only [e3] at q; exact False.elim q
    | some z =>
      simp only [e3] at q
      obtain ⟨g, ot⟩ := r'.top
      refine hs Γ σ e _ _ G' H' [.int a, w] [.d (.int a), o] z _ r' (.cons ⟨[], .d (.int a)⟩ (.cons ⟨g, ot⟩ .nil)) e3 fun z' G2 H2 r2 => ?_
      have r3 : R X.K Γ σ e ([some w] ++ some z' :: []) ([some o] ++ some z :: []) G2 H2 := R.unrot (vs := [some w]) (os := [some o]) r2 rfl
      have r4 : R X.K Γ σ e (some z' :: []) (some z :: []) G2 H2 := R.pop1 r3
      unfold putE at q
      split at q
      · rename_i hlt
        have pn : Γ.pin i = none := by
          cases e : Γ.pin i with
          | none => rfl
          | some v => exact absurd (hp.1 i v e) hi
        exact q _ G2 H2 (r4.store hlt pn)
      · exact False.elim q
  · exact False.elim h
/-- what an expression comes to stays from now on -/
def mFz (m : ME) : ME := fun env => match m env with
  | .ok o e => .ok (.d (frz o)) e
  | r => r
theorem de_fz {e : Expr} {m : ME} (h : DE X W np e m) : DE X W np e (mFz m) := by
  obtain ⟨t, p, s⟩ := h.ex
  refine ⟨t, p, fun Γ σ env τ stk G H Q hp r h => s Γ σ env τ stk G H Q hp r ?_⟩
  unfold mFz at h
  cases q : m env with
  | ok o e =>
    simp only [q] at h
    intro v G' H' r'
    obtain ⟨G2, r2⟩ := r'.frz
    exact h v G2 H' r2
  | exc x e =>
    simp only [q] at h
    exact h
  | fail =>
    simp only [q] at h
    exact h
/-! ### keywords in any order -/
def perm {α : Type} (π : List Nat) (xs : List α) : List α := π.filterMap fun j => xs[j]?
theorem vals_perm {zs : List V} {ws : List Value} (r : Vals zs ws) : ∀ π : List Nat, Vals (perm π zs) (perm π ws)
  | [] => .nil
  | j :: π => by
    have ih := vals_perm r π
    unfold perm at ih ⊢
    rw [List.filterMap_cons, List.filterMap_cons]
    cases e : zs[j]? with
    | none => rw [r.none_of e]; exact ih
    | some z =>
      obtain ⟨w, e2, q⟩ := r.get e
      rw [e2]
      exact .cons q ih
/-- the keywords ns, the parameters ps: the one of parameter k stands at place π k -/
structure KwP (K : PySem.W.Frag) (fd : FuncData) (ps ns : List Str) (π : List Nat) : Prop where
  to : ∀ (s : Shared) (ws : List Value), K.In s.heap → ws.length = ns.length → BindsTo s fd ⟨[], ns.zip ws⟩ (ps.zip (perm π ws))
  len : π.length = ps.length
  len2 : ns.length = ps.length
theorem kwp_of {K : PySem.W.Frag} {x qual : Str} {st : Stmt} {f : Addr} {fd : FuncData} {ps ns : List Str} {π : List Nat} (F : Fun K x qual st f fd)
    (h : ∀ (kV doc pm : Value) (an : Option Addr) (cdv ct : Value) (us : List Value), us.length = ns.length → bindArgs (PySem.W.fnOf x qual (defArgs st) (defBody st) (defScope st) .none kV doc pm an cdv ct) ⟨[], ns.zip us⟩ = pure (ps.zip (perm π us))) (l1 : π.length = ps.length) (l2 : ns.length = ps.length) : KwP K fd ps ns π := by
  obtain ⟨_, _, a, b, c, d, e, g, _, rfl, _, _⟩ := F.ex
  exact ⟨fun s ws _ hl => .of_eq (h a b c d e g ws hl), l1, l2⟩
def spP (π : List Nat) (sp : Sp) (n : Nat) : Sp := fun vs H Q E => vs.length = n ∧ sp (perm π vs) H Q E
theorem run_kwp {CX : CXT} {k : Nat} {f : Addr} {fd : FuncData} {ps ns : List Str} {π : List Nat} {sp : Sp} {E : L2.St → XK} {pins : List (Addr × Obj)} {σ : L2.St} {H : Hp} {s : Shared} {Q : VK} {ws : List Value} {zs : List V} (F : FnOk X.prog X.w X.K X.mg X.base CX k f fd ps sp) (hr : Room k X.A) (hb : KwP X.K fd ps ns π) (hx : PassesAt CX X σ (E σ))
    (I : Inv X pins σ H s) (rz : Vals zs ws) (h : spP π sp ns.length zs H Q (E σ)) : wpAny (model X.prog X.w) X.A (call (.ref f) [] (ns.zip ws)) (EP X pins σ Q) X.xe s := by
  have hl : ws.length = ns.length := by
    rw [← rz.length]
    exact h.1
  refine wpAny_call (codeAny_mono (F.run X.A X.stack s H ⟨[], ns.zip ws⟩ (perm π ws) (perm π zs) Q (E σ) hr I.env0 (hb.to s ws I.kIn hl) (vals_perm rz π) h.2) fun r s' hq => ?_)
  cases r with
  | error e => exact hx pins H s e s' I hq
  | ok fl =>
    cases fl with
    | ret u => exact I.after hq
    | next => exact False.elim hq
    | brk => exact False.elim hq
    | cont => exact False.elim hq
theorem pe_kwp {CX : CXT} {k : Nat} {f : Addr} {fd : FuncData} {ps ns : List Str} {π : List Nat} {sp : Sp} {E : L2.St → XK} {x : Str} {kws : List Keyword} {tk : TA} {p pos : Pos} (F : FnOk X.prog X.w X.K X.mg X.base CX k f fd ps sp) (hr : Room k X.A) (hg : Gl X x) (hm : X.mg x = some (.ref f)) (hk : PySem.W.keepIn X.K (.ref f) = true) (hb : KwP X.K fd ps ns π) (hx : ∀ σ, PassesAt CX X σ (E σ)) (hkw : PK X kws tk)
    (hall : (backToKw pos (keywordEach kws X.env)).all (·.1.isSome) = true) (hks : (backToKw pos (keywordEach kws X.env)).filterMap (·.1) = ns) (hdb : (x == ("__debug__" : Str)) = false)
    (hpl : ((backTo pos (starEach [] X.env)).any (·.1) || (backToKw pos (keywordEach kws X.env)).any (·.1.isNone)) = false) : PE X (.Call (.Name x p) [] kws pos) (fun σ H Q => tk σ H fun zs H1 => spP π sp ns.length zs H1 Q (E σ)) := by
  refine ⟨fun pins s σ H Q I h => ?_⟩
  refine wpAny_Call_Name_kw (ld_glob I hg hm ?_ hdb)
  refine PySem.W.callWith_KW0 (h₀ := X.base) I.ok.mod.kin hk hall ?_ hpl
  refine thn (hkw.run pos pins s σ H _ I h) fun ws s2 ⟨zs, H2, I2, rz, q2⟩ => ⟨I2.kIn, ?_⟩
  rw [hks]
  exact run_kwp F hr hb (hx σ) I2 rz q2
def dataO : List O → Option (List D)
  | [] => some []
  | .d x :: r => (dataO r).map (x :: ·)
  | _ => none
/-- a call by keywords in another order than the parameters': all that is handed in is data -/
def mCallP (π : List Nat) (f : List O → FR) (ks : List AK) : ME := fun env => match evalA ks env with
  | .ok cs e => match resA ks cs e with
    | some os => match dataO os with
      | some xs => match f ((perm π xs).map O.d) with
        | .ok o _ => .ok o e
        | .exc x _ => .exc x e
        | .fail => .fail
      | none => .fail
    | none => .fail
  | .exc x e => .exc x e
  | .fail => .fail
theorem dataO_of {G H : Hp} : ∀ {vs : List V} {os : List O} {xs : List D}, OAll K G H vs os → dataO os = some xs → Reps K G vs xs
  | _, _, _, .nil, h => by
    cases h
    exact .nil
  | v :: vs, .d x :: os, xs, .cons ⟨f, q⟩ r, h => by
    cases e : dataO os with
    | none => simp [dataO, e] at h
    | some ys =>
      simp [dataO, e] at h
      subst h
      cases q with
      | d q => exact .cons q (dataO_of r e)
  | v :: vs, .l _ :: os, xs, .cons _ _, h => by cases h
  | v :: vs, .t _ :: os, xs, .cons _ _, h => by cases h
theorem Reps.perm {G : Hp} {vs : List V} {xs : List D} (r : Reps K G vs xs) : ∀ π : List Nat, Reps K G (Dn.perm π vs) (Dn.perm π xs)
  | [] => .nil
  | j :: π => by
    have ih := Reps.perm r π
    unfold Dn.perm at ih ⊢
    rw [List.filterMap_cons, List.filterMap_cons]
    have hl := r.length
    cases e : xs[j]? with
    | none =>
      have e2 : vs[j]? = none := by
        rw [List.getElem?_eq_none_iff] at e ⊢
        omega
      rw [e2]
      exact ih
    | some x =>
      obtain ⟨v, e2, q⟩ := r.get e
      rw [e2]
      exact .cons q ih
theorem areNm_ex {σ : L2.St} : ∀ vs : List V, areNm (vs.map fun _ => AK.ex fun _ => .fail) σ vs
  | [] => rfl
  | v :: vs => ⟨v, vs, rfl, trivial, areNm_ex vs⟩
theorem backA_ex0 {α : Type} : ∀ (vs : List α) (as e e' : Env), backA (vs.map fun _ => AK.ex fun _ => .fail) as e e' = e'
  | [], _, _, _ => rfl
  | v :: vs, as, e, e' => backA_ex0 vs as.tail e e'
theorem de_callKWP {k n : Nat} {g : Addr} {fd : FuncData} {ps ns : List Str} {π : List Nat} {f : List O → FR} {x : Str} {kws : List Keyword} {p pos : Pos} {ks : List AK} (F : FnOk X.prog X.w X.K X.mg X.base (L2N.CX X.prog X.w) k g fd ps (FP X.K X.mg n f)) (hr : Room k X.A) (hm : X.mg x = some (.ref g)) (hk : PySem.W.keepIn X.K (.ref g) = true) (hb : KwP X.K fd ps ns π)
    (tk : L2N.Takes X W) (ha : DKw X W np kws ks) (hn : ks.length = ns.length := by rfl) (hpi : ∀ vs : List V, vs.length = ns.length → (perm π vs).length = n := by intro vs hl; match vs, hl with | [_, _], _ => rfl) (hg : Gl X x := by rfl) (hall : (backToKw pos (keywordEach kws X.env)).all (·.1.isSome) = true := by rfl) (hks : (backToKw pos (keywordEach kws X.env)).filterMap (·.1) = ns := by rfl) (hdb : (x == ("__debug__" : Str)) = false := by decide)
    (hpl : ((backTo pos (starEach [] X.env)).any (·.1) || (backToKw pos (keywordEach kws X.env)).any (·.1.isNone)) = false := by rfl) : DE X W np (.Call (.Name x p) [] kws pos) (mCallP π f ks) := by
  obtain ⟨t, q, s⟩ := ha.ex
  refine ⟨_, pe_kwp F hr hg hm hk hb (fun σ => L2N.passAt tk σ) q hall hks hdb hpl, fun Γ σ env τ stk G H Q hp r h => ?_⟩
  refine s Γ σ env τ stk G H _ hp r ?_
  unfold mCallP at h
  cases e1 : evalA ks env with
  | ok cs e =>
    simp only [e1] at h
    intro vs G1 H1 hl r1 n1
    cases e2 : resA ks cs e with
    | none => simp only [e2] at h; exact False.elim h
    | some os =>
      simp only [e2] at h
      cases e3 : dataO os with
      | none => simp only [e3] at h; exact False.elim h
      | some xs =>
        simp only [e3] at h
        have oa := oall_of (pre := []) (pres := []) rfl r1 hl n1 e2
        have rp := (dataO_of oa e3).perm π
        have r2 : R X.K Γ σ e τ stk G1 H1 := R.popN (by simp [hl]) r1
        have r3 := R.pushDs rp r2
        have hvl : vs.length = ns.length := (areNm_len n1).trans hn
        refine ⟨hvl, call_fp (ks := (perm π vs).map fun _ => AK.ex fun _ => .fail) (e := e) (env := e) r3 (hpi vs hvl) (by rw [List.length_map, rp.length]) (areNm_ex _) ?_⟩
        cases e4 : f ((perm π xs).map O.d) with
        | ok o as =>
          simp only [e4] at h ⊢
          rw [backA_ex0]
          exact h
        | exc y as =>
          simp only [e4] at h ⊢
          rw [backA_ex0]
          exact h
        | fail => simp only [e4] at h; exact False.elim h
  | exc x e =>
    simp only [e1] at h
    exact h
  | fail =>
    simp only [e1] at h
    exact h
end
end Dn
end
section
set_option Elab.async false
set_option linter.all false
set_option maxRecDepth 100000
set_option maxHeartbeats 4000000
/-! Dn28: x[::-1] of tuples and of lists. -/
namespace Dn
open PySem PySem.Spec L2
open PyProof.Rows hiding St
section
variable {prog : Program} {w : World} {A : Around} {E : Value → Shared → Prop} {s : Shared}
theorem applied_rev {sl : Addr} {vs : Value} {n : Nat} {Q : Int × Int × Nat → Shared → Prop} (hs : s.heap.IsSliceOf sl .none .none vs) (ps : IsPart vs (some (-1)))
    (h : Q ((n : Int) - 1, -1, n) s) : wpAny (model prog w) A (Builtin.Slice.sliceApplied (.ref sl) (pure (n : Int))) Q E s := by
  obtain ⟨os, hos, hcs, hds⟩ := id hs
  unfold Builtin.Slice.sliceApplied Builtin.Slice.sliceFields
  refine wpAny_bind (wpAny_bind (wpAny_field hos hds (x := .none) rfl (wpAny_bind (wpAny_field hos hds (x := .none) rfl (wpAny_bind (wpAny_field hos hds (x := vs) rfl (wpAny_pure ?_)))))))
  refine wpAny_bind (HT.slicePart_ ps ?_)
  show wpAny _ _ (if ((-1 : Int) == 0) = true then _ else _) _ _ s
  rw [if_neg (by decide)]
  refine wpAny_bind (HT.slicePart_ .none (wpAny_bind (HT.slicePart_ .none (wpAny_bind (wpAny_pure ?_)))))
  show wpAny _ _ (match Builtin.Slice.sliceAdjust none none (-1) (n : Int) with | (lo, hi) => pure (lo, (-1 : Int), Builtin.Slice.slicePlaces lo hi (-1))) _ _ s
  show wpAny _ _ (pure ((n : Int) - 1, (-1 : Int), Builtin.Slice.slicePlaces ((n : Int) - 1) (-1) (-1))) _ _ s
  have e : Builtin.Slice.slicePlaces ((n : Int) - 1) (-1) (-1) = n := by
    unfold Builtin.Slice.slicePlaces
    rw [if_neg (by decide)]
    split <;> simp <;> omega
  rw [e]
  exact wpAny_pure h
theorem pick_rev (xs : Array Value) : ((List.range xs.size).filterMap fun (m : Nat) => xs[(((xs.size : Int) - 1) + (m : Int) * (-1)).toNat]?).toArray = xs.toList.reverse.toArray := by
  have e : (fun (m : Nat) => xs[(((xs.size : Int) - 1) + (m : Int) * (-1)).toNat]?) = (xs[·]?) ∘ fun k => xs.size - 1 - k := by
    funext m
    show xs[(((xs.size : Int) - 1) + (m : Int) * (-1)).toNat]? = xs[xs.size - 1 - m]?
    rw [show (((xs.size : Int) - 1) + (m : Int) * (-1)).toNat = xs.size - 1 - m by omega]
  rw [e, ← List.filterMap_map, PySem.W.krv_range, List.filterMap_reverse, PySem.W.krv_all]
theorem getItem_tuple_rev {t sl : Addr} {items : Array Value} {vs : Value} {Q : Value → Shared → Prop} (ht : IsTup s.heap t items) (hs : s.heap.IsSliceOf sl .none .none vs) (ps : IsPart vs (some (-1)))
    (h : Q (.ref s.heap.objs.size) { s with heap := s.heap.push { cls := .type "tuple", data := .seq items.toList.reverse.toArray } })
    (hsz : items.size ≤ sizeLine) : wpAny (model prog w) A (getItem (.ref t) (.ref sl)) Q E s := by
  have htake : sizeOk (.seq items.toList.reverse.toArray) := by
    show items.toList.reverse.toArray.size ≤ sizeLine
    simpa using hsz
  obtain ⟨os, hos, hcs, hds⟩ := id hs
  have hTs : s.TypeIs (.ref sl) "slice" := ⟨os, hos, hcs⟩
  unfold getItem
  try with_reducible refine wpAny_holding ?_
  first | refine wpAny_bind (wpAny_pure ?_) | skip
  refine wpAny_bind (wpAny_sequenceKey ht.typeIs (by decide) ?_)
  refine wpAny_bind (wpAny_callSpecial?_slot (name := Str.ofString "__getitem__") ht.typeIs PyProof.Rows.slot_tuple_getitem
    (wpAny_call_entry PyProof.Rows.slot_tuple_getitem ht.typeIs entry_tuple_getitem ?_ (args_tuple_getitem _ _)))
  show wpAny _ _ (Builtin.Tuple.tupleItemsOf (.ref t) >>= _) _ _ s
  refine wpAny_bind (tupleItemsOf_ ht ?_)
  refine wpAny_bind (wpAny_typeOf hTs ?_)
  rw [if_pos (by decide)]
  refine wpAny_bind (applied_rev hs ps ?_)
  have hno : ¬ ((((items.size : Int) - 1) == 0 && (-1 : Int) == 1 && items.size == items.size) = true) := by
    intro q
    rw [Bool.and_eq_true, Bool.and_eq_true] at q
    exact absurd q.1.2 (by decide)
  show wpAny _ _ (if (((items.size : Int) - 1) == 0 && (-1 : Int) == 1 && items.size == items.size) = true then _ else _) _ _ s
  rw [if_neg hno, pick_rev]
  first
    | exact wpAny_bind (m := Builtin.Tuple.tupleExact _) (wpAny_newObj_type (wpAny_pure ⟨_, rfl, wpAny_pure h⟩) htake)
    | exact wpAny_bind (m := Builtin.Tuple.tupleExact _) (wpAny_newObj_type (wpAny_bind (wpAny_pure (wpAny_pure ⟨_, rfl, wpAny_pure h⟩))) htake)
    | exact wpAny_bind (wpAny_bind (m := Builtin.Tuple.tupleExact _) (wpAny_newObj_type (wpAny_pure (wpAny_pure ⟨_, rfl, wpAny_pure h⟩)) htake))
    | exact wpAny_bind (wpAny_bind (m := Builtin.Tuple.tupleExact _) (wpAny_newObj_type (wpAny_pure ⟨_, rfl, wpAny_pure h⟩) htake))
end
section
variable {X : Cx}
def rRv (K : PySem.W.Frag) : V → Hp → VK → Prop := fun x H Q => (∃ a xs, x = .ref a ∧ SqT K H a xs ∧ ∀ p, H p = none → Q (.ref p) (upd H p (.tup xs.reverse))) ∨ ∃ a xs, x = .ref a ∧ SqL K H a xs ∧ ∀ p, H p = none → Q (.ref p) (upd H p (.lst xs.reverse))
theorem pe_rv {e : Expr} {te : TE} {k : Nat} {p1 p2 p3 pos : Pos} (he : PE X e te) : PE X (.Subscript e (.Slice none none (some (.UnaryOp .USub (.Constant (.int 1) k p1) p2)) p3) pos) (tUn (rRv X.K) te) := by
  refine ⟨fun pins s σ H Q I h => ?_⟩
  refine Subscript_ (thn (he.run pins s σ H _ I h) fun v s1 ⟨x, H1, I1, r1, q1⟩ => ?_)
  have hst : PO X (some (.UnaryOp .USub (.Constant (.int 1) k p1) p2)) (tPart (tUn (rU fun i => .int (-i)) (tC (.int 1)))) := po_some (pe_un un_neg pe_int)
  refine wpAny_Slice (thn (po_none.run pins s1 σ H1 (fun o H2 => o = none ∧ H2 = H1) I1 ⟨rfl, rfl⟩) fun vl s2 ⟨l, H2, I2, pl, el, e2⟩ => ?_)
  subst el e2
  refine thn (po_none.run pins s2 σ H2 (fun o H3 => o = none ∧ H3 = H2) I2 ⟨rfl, rfl⟩) fun vu s3 ⟨u, H3, I3, pu, eu, e3⟩ => ?_
  subst eu e3
  refine thn (hst.run pins s3 σ H3 (fun o H4 => o = some (-1) ∧ H4 = H3) I3 ⟨1, rfl, -1, rfl, rfl, rfl⟩) fun vs s4 ⟨o, H4, I4, ps, eo, e4⟩ => ?_
  subst eo e4
  have I5 : Inv X pins σ H4 { s4 with heap := s4.heap.push { cls := .type "slice", data := .fields #[vl, vu, vs] } } := I4.kept (t' := s4.toks) fun b ob q => Heap.get?_push_of_some _ q
  show wpAny (model X.prog X.w) X.A (subscriptTail e (.Slice none none (some (.UnaryOp .USub (.Constant (.int 1) k p1) p2)) p3) v (.ref s4.heap.objs.size)) (EP X pins σ Q) X.xe { s4 with heap := s4.heap.push { cls := .type "slice", data := .fields #[vl, vu, vs] } }
  rcases q1 with ⟨a, xs, ex, hx, q⟩ | ⟨a, xs, ex, hx, q⟩
  · subst ex
    cases r1
    obtain ⟨its, r, ht, hz⟩ := I5.tuple hx
    have hlen : its.toArray.size = xs.length := by rw [List.size_toArray]; exact r.length.symm
    refine tail_any (ops := [.ref a, .ref s4.heap.objs.size]) ht.typeIs (PyProof.Rows.slot_tuple_getitem.lookup) ?_ (by with_unfolding_all rfl)
    cases pl
    cases pu
    refine getItem_tuple_rev ht (Heap.IsSliceOf.new _ .none .none vs) ps ?_ (by rw [hlen]; exact hz)
    refine ⟨.ref _, _, I5.laid (t' := s4.toks) (o := .tup xs.reverse) (fun b ob q => Heap.get?_push_of_some _ q) (Nat.le_refl _) ?_, rfl, q _ (I5.hok.fresh (Nat.le_refl _))⟩
    exact ⟨by rw [List.length_reverse]; exact hz, _, r.reverse, IsTup.new _ _⟩
  · subst ex
    cases r1
    obtain ⟨its, r, ht, hz⟩ := I5.list hx
    have hlen := r.length
    refine tail_any (ops := [.ref a, .ref s4.heap.objs.size]) ht.isList.typeIs (PySem.slot_list_getitem.lookup) ?_ (by with_unfolding_all rfl)
    refine wpAny_getItem_list_slice ht.isList (Heap.IsSliceOf.new _ vl vu vs) pl pu ps (by decide) ?_ (by rw [List.size_toArray]; omega)
    rw [PySem.W.krv_pick]
    refine ⟨.ref _, _, I5.laid (t' := s4.toks) (o := .lst xs.reverse) (fun b ob q => Heap.get?_push_of_some _ q) (Nat.le_refl _) ?_, rfl, q _ (I5.hok.fresh (Nat.le_refl _))⟩
    exact ⟨by rw [List.length_reverse]; exact hz, _, 0, r.reverse, Heap.get?_push_size _ rfl⟩
end
def toRv : O → Option O := fun o => match tupF o with
  | some xs => some (.d (.tup xs.reverse))
  | none => (lstF o).map fun xs => .l (xs.reverse.map O.d)
section
variable {X : Cx} {W : WX} {np : Asm} {K : PySem.W.Frag}
theorem s_rv : OpS K (r1 (rRv K)) (op1 toRv) := ops1 fun Γ σ e τ stk G H v a o Q rr ha ho k => by
  show rRv K v H Q
  unfold toRv at ho
  cases et : tupF a with
  | some xs =>
    simp only [et] at ho
    cases ho
    obtain ⟨b, ws, ev, sq, rp, sg⟩ := tupF_of rr.wd.sub ha et
    exact .inl ⟨b, ws, ev, sq, fun p hp => k _ _ _ (rr.mkT rp.rev hp)⟩
  | none =>
    simp only [et] at ho
    cases el : lstF a with
    | none => rw [el] at ho; cases ho
    | some xs =>
      rw [el] at ho
      cases ho
      obtain ⟨b, ws, ev, sq, rp⟩ := lstF_of rr.wd.sub ha el
      exact .inr ⟨b, ws, ev, sq, fun p hp => k _ _ _ (rr.mkL rp.rev hp)⟩
theorem de_rv {a : Expr} {k1 : AK} {k : Nat} {p1 p2 p3 pos : Pos} (ha : DK X W np a k1) : DE X W np (.Subscript a (.Slice none none (some (.UnaryOp .USub (.Constant (.int 1) k p1) p2)) p3) pos) (mOp (op1 toRv) [k1]) := by
  obtain ⟨ta, p, s⟩ := ha.ex
  exact ⟨_, pe_rv p, esnd_op (r := r1 (rRv X.K)) (asnd_cons s asnd_nil) s_rv⟩
end
end Dn
end
section
set_option Elab.async false
set_option linter.all false
set_option maxRecDepth 100000
set_option maxHeartbeats 4000000
namespace K16
open PySem PySem.Spec L2 Dn
open PyProof.Rows hiding St
abbrev pw : PySem.Program := PySem.Challenge.pw_stoodthen_k16_whole_mesh_of_counts
def topS (i : Nat) : Stmt := pw.main.body.getD i (.Pass ⟨0, 0, 0, 0⟩)
abbrev s_is_integer : Stmt := topS 6
abbrev s_is_number : Stmt := topS 7
abbrev s_c_product : Stmt := topS 9
abbrev s_cuts_of : Stmt := topS 11
abbrev s_cut_gap : Stmt := topS 12
abbrev s_d_is_below : Stmt := topS 14
abbrev s_d_product : Stmt := topS 15
abbrev s_d_split : Stmt := topS 16
abbrev s_d_mesh_left : Stmt := topS 17
abbrev s_d_mesh_rights : Stmt := topS 18
abbrev s_d_mesh_counts : Stmt := topS 19
abbrev s_d_mesh_halves : Stmt := topS 21
abbrev s_halves_of : Stmt := topS 22
abbrev s_right_comes : Stmt := topS 23
abbrev s_rights_ahead : Stmt := topS 24
abbrev s_counts_at : Stmt := topS 25
abbrev s_left_begins : Stmt := topS 26
abbrev s_right_begins : Stmt := topS 27
abbrev s__law_open : Stmt := topS 29
abbrev s__law_take : Stmt := topS 30
abbrev s__law_number : Stmt := topS 31
abbrev s__law_same : Stmt := topS 32
abbrev s__law_product : Stmt := topS 33
abbrev s__law_halves : Stmt := topS 34
abbrev s__law_small_sizes : Stmt := topS 35
abbrev s__law_wide_sizes : Stmt := topS 36
abbrev s__law_moments : Stmt := topS 37
abbrev s__law_walk : Stmt := topS 38
abbrev s__law_small : Stmt := topS 39
abbrev s__law_come : Stmt := topS 40
abbrev s__law_stands : Stmt := topS 41
abbrev s__law_whole : Stmt := topS 42
abbrev s__law_left : Stmt := topS 43
abbrev s__law_right : Stmt := topS 44
abbrev s__law_wide : Stmt := topS 45
abbrev s__law_told : Stmt := topS 46
abbrev s__law_refusals : Stmt := topS 47
abbrev s_law : Stmt := topS 48
abbrev sI_NotUsable : Stmt := inClass (topS 3) 0
abbrev sI_TooMany : Stmt := inClass (topS 4) 0
/-- the own exceptions that are raised -/
def xKnown (c : Str) : Bool := decide (c = "NotUsable")
def xCat_StoodError (c : Str) : Option Bool := if c = "NotUsable" then some true else none
def xIs_CodeError (c : Str) : Option Bool := if c = "NotUsable" then some true else none
def xIs_NotUsable (c : Str) : Option Bool := if c = "NotUsable" then some true else none
def xIs_TooMany (c : Str) : Option Bool := if c = "NotUsable" then some false else none
structure Txt (K : PySem.W.Frag) (mg : Str → Option Value) (ad : Nat → Addr) (fdn : Nat → FuncData) : Prop where
  F_is_integer : Fun K "is_integer" "is_integer" s_is_integer (ad 6) (fdn 6)
  m_is_integer : mg "is_integer" = some (.ref (ad 6))
  b_is_integer : Binds K (fdn 6) ["thing"] []
  F_is_number : Fun K "is_number" "is_number" s_is_number (ad 7) (fdn 7)
  m_is_number : mg "is_number" = some (.ref (ad 7))
  b_is_number : Binds K (fdn 7) ["thing"] []
  F_c_product : Fun K "c_product" "c_product" s_c_product (ad 9) (fdn 9)
  m_c_product : mg "c_product" = some (.ref (ad 9))
  b_c_product : Binds K (fdn 9) ["numbers"] []
  F_cuts_of : Fun K "cuts_of" "cuts_of" s_cuts_of (ad 11) (fdn 11)
  m_cuts_of : mg "cuts_of" = some (.ref (ad 11))
  b_cuts_of : Binds K (fdn 11) ["sizes"] []
  F_cut_gap : Fun K "cut_gap" "cut_gap" s_cut_gap (ad 12) (fdn 12)
  m_cut_gap : mg "cut_gap" = some (.ref (ad 12))
  b_cut_gap : Binds K (fdn 12) ["sizes"] []
  F_d_is_below : Fun K "d_is_below" "d_is_below" s_d_is_below (ad 14) (fdn 14)
  m_d_is_below : mg "d_is_below" = some (.ref (ad 14))
  b_d_is_below : Binds K (fdn 14) ["thing", "limit"] []
  F_d_product : Fun K "d_product" "d_product" s_d_product (ad 15) (fdn 15)
  m_d_product : mg "d_product" = some (.ref (ad 15))
  b_d_product : Binds K (fdn 15) ["sizes"] []
  F_d_split : Fun K "d_split" "d_split" s_d_split (ad 16) (fdn 16)
  m_d_split : mg "d_split" = some (.ref (ad 16))
  b_d_split : Binds K (fdn 16) ["inner"] []
  F_d_mesh_left : Fun K "d_mesh_left" "d_mesh_left" s_d_mesh_left (ad 17) (fdn 17)
  m_d_mesh_left : mg "d_mesh_left" = some (.ref (ad 17))
  b_d_mesh_left : Binds K (fdn 17) ["halves", "right"] []
  F_d_mesh_rights : Fun K "d_mesh_rights" "d_mesh_rights" s_d_mesh_rights (ad 18) (fdn 18)
  m_d_mesh_rights : mg "d_mesh_rights" = some (.ref (ad 18))
  b_d_mesh_rights : Binds K (fdn 18) ["halves", "left"] []
  F_d_mesh_counts : Fun K "d_mesh_counts" "d_mesh_counts" s_d_mesh_counts (ad 19) (fdn 19)
  m_d_mesh_counts : mg "d_mesh_counts" = some (.ref (ad 19))
  b_d_mesh_counts : Binds K (fdn 19) ["halves", "stage"] []
  F_d_mesh_halves : Fun K "d_mesh_halves" "d_mesh_halves" s_d_mesh_halves (ad 21) (fdn 21)
  m_d_mesh_halves : mg "d_mesh_halves" = some (.ref (ad 21))
  b_d_mesh_halves : Binds K (fdn 21) ["inner"] []
  F_halves_of : Fun K "halves_of" "halves_of" s_halves_of (ad 22) (fdn 22)
  m_halves_of : mg "halves_of" = some (.ref (ad 22))
  b_halves_of : Binds K (fdn 22) ["inner"] []
  F_right_comes : Fun K "right_comes" "right_comes" s_right_comes (ad 23) (fdn 23)
  m_right_comes : mg "right_comes" = some (.ref (ad 23))
  b_right_comes : Binds K (fdn 23) ["inner", "right"] []
  F_rights_ahead : Fun K "rights_ahead" "rights_ahead" s_rights_ahead (ad 24) (fdn 24)
  m_rights_ahead : mg "rights_ahead" = some (.ref (ad 24))
  b_rights_ahead : Binds K (fdn 24) ["inner", "left"] []
  F_counts_at : Fun K "counts_at" "counts_at" s_counts_at (ad 25) (fdn 25)
  m_counts_at : mg "counts_at" = some (.ref (ad 25))
  b_counts_at : Binds K (fdn 25) ["inner", "stage"] []
  F_left_begins : Fun K "left_begins" "left_begins" s_left_begins (ad 26) (fdn 26)
  m_left_begins : mg "left_begins" = some (.ref (ad 26))
  b_left_begins : Binds K (fdn 26) ["inner", "left"] []
  F_right_begins : Fun K "right_begins" "right_begins" s_right_begins (ad 27) (fdn 27)
  m_right_begins : mg "right_begins" = some (.ref (ad 27))
  b_right_begins : Binds K (fdn 27) ["inner", "right"] []
  F__law_open : Fun K "_law_open" "_law_open" s__law_open (ad 29) (fdn 29)
  m__law_open : mg "_law_open" = some (.ref (ad 29))
  b__law_open : Binds K (fdn 29) ["_law_script"] []
  F__law_take : Fun K "_law_take" "_law_take" s__law_take (ad 30) (fdn 30)
  m__law_take : mg "_law_take" = some (.ref (ad 30))
  b__law_take : Binds K (fdn 30) ["_law_pool", "_law_many"] []
  F__law_number : Fun K "_law_number" "_law_number" s__law_number (ad 31) (fdn 31)
  m__law_number : mg "_law_number" = some (.ref (ad 31))
  b__law_number : Binds K (fdn 31) ["_law_pool", "_law_top"] []
  F__law_same : Fun K "_law_same" "_law_same" s__law_same (ad 32) (fdn 32)
  m__law_same : mg "_law_same" = some (.ref (ad 32))
  b__law_same : Binds K (fdn 32) ["_law_got", "_law_due"] []
  F__law_product : Fun K "_law_product" "_law_product" s__law_product (ad 33) (fdn 33)
  m__law_product : mg "_law_product" = some (.ref (ad 33))
  b__law_product : Binds K (fdn 33) ["_law_sizes"] []
  F__law_halves : Fun K "_law_halves" "_law_halves" s__law_halves (ad 34) (fdn 34)
  m__law_halves : mg "_law_halves" = some (.ref (ad 34))
  b__law_halves : Binds K (fdn 34) ["_law_sizes"] []
  F__law_small_sizes : Fun K "_law_small_sizes" "_law_small_sizes" s__law_small_sizes (ad 35) (fdn 35)
  m__law_small_sizes : mg "_law_small_sizes" = some (.ref (ad 35))
  b__law_small_sizes : Binds K (fdn 35) ["_law_pool"] []
  F__law_wide_sizes : Fun K "_law_wide_sizes" "_law_wide_sizes" s__law_wide_sizes (ad 36) (fdn 36)
  m__law_wide_sizes : mg "_law_wide_sizes" = some (.ref (ad 36))
  b__law_wide_sizes : Binds K (fdn 36) ["_law_pool"] []
  F__law_moments : Fun K "_law_moments" "_law_moments" s__law_moments (ad 37) (fdn 37)
  m__law_moments : mg "_law_moments" = some (.ref (ad 37))
  b__law_moments : Binds K (fdn 37) ["_law_halves_here"] []
  F__law_walk : Fun K "_law_walk" "_law_walk" s__law_walk (ad 38) (fdn 38)
  m__law_walk : mg "_law_walk" = some (.ref (ad 38))
  b__law_walk : Binds K (fdn 38) ["_law_halves_here", "_law_moments_here"] []
  F__law_small : Fun K "_law_small" "_law_small" s__law_small (ad 39) (fdn 39)
  m__law_small : mg "_law_small" = some (.ref (ad 39))
  b__law_small : Binds K (fdn 39) ["_law_sizes"] []
  F__law_come : Fun K "_law_come" "_law_come" s__law_come (ad 40) (fdn 40)
  m__law_come : mg "_law_come" = some (.ref (ad 40))
  b__law_come : Binds K (fdn 40) ["_law_halves_here", "_law_left_here", "_law_right_here"] []
  F__law_stands : Fun K "_law_stands" "_law_stands" s__law_stands (ad 41) (fdn 41)
  m__law_stands : mg "_law_stands" = some (.ref (ad 41))
  b__law_stands : Binds K (fdn 41) ["_law_halves_here", "_law_left_here", "_law_right_here"] []
  F__law_whole : Fun K "_law_whole" "_law_whole" s__law_whole (ad 42) (fdn 42)
  m__law_whole : mg "_law_whole" = some (.ref (ad 42))
  b__law_whole : Binds K (fdn 42) ["_law_got", "_law_top"] []
  F__law_left : Fun K "_law_left" "_law_left" s__law_left (ad 43) (fdn 43)
  m__law_left : mg "_law_left" = some (.ref (ad 43))
  b__law_left : Binds K (fdn 43) ["_law_sizes", "_law_halves_here", "_law_left_here"] []
  F__law_right : Fun K "_law_right" "_law_right" s__law_right (ad 44) (fdn 44)
  m__law_right : mg "_law_right" = some (.ref (ad 44))
  b__law_right : Binds K (fdn 44) ["_law_sizes", "_law_halves_here", "_law_right_here"] []
  F__law_wide : Fun K "_law_wide" "_law_wide" s__law_wide (ad 45) (fdn 45)
  m__law_wide : mg "_law_wide" = some (.ref (ad 45))
  b__law_wide : Binds K (fdn 45) ["_law_pool"] []
  F__law_told : Fun K "_law_told" "_law_told" s__law_told (ad 46) (fdn 46)
  m__law_told : mg "_law_told" = some (.ref (ad 46))
  b__law_told : Binds K (fdn 46) ["_law_which", "_law_sizes", "_law_one"] []
  F__law_refusals : Fun K "_law_refusals" "_law_refusals" s__law_refusals (ad 47) (fdn 47)
  m__law_refusals : mg "_law_refusals" = some (.ref (ad 47))
  b__law_refusals : Binds K (fdn 47) ["_law_pool", "_law_sizes"] []
  F_law : Fun K "law" "law" s_law (ad 48) (fdn 48)
  m_law : mg "law" = some (.ref (ad 48))
  b_law : Binds K (fdn 48) ["_law_script"] []
  kw_counts_at : KwB K (fdn 25) ["inner", "stage"]
  kw_halves_of : KwB K (fdn 22) ["inner"]
  kw_left_begins : KwB K (fdn 26) ["inner", "left"]
  kw_right_begins : KwB K (fdn 27) ["inner", "right"]
  kw_right_comes : KwB K (fdn 23) ["inner", "right"]
  kw_rights_ahead : KwB K (fdn 24) ["inner", "left"]
  kp_right_comes_10 : KwP K (fdn 23) ["inner", "right"] ["right", "inner"] [1, 0]
  kp_rights_ahead_10 : KwP K (fdn 24) ["inner", "left"] ["left", "inner"] [1, 0]
  kp_counts_at_10 : KwP K (fdn 25) ["inner", "stage"] ["stage", "inner"] [1, 0]
  kp_left_begins_10 : KwP K (fdn 26) ["inner", "left"] ["left", "inner"] [1, 0]
  kp_right_begins_10 : KwP K (fdn 27) ["inner", "right"] ["right", "inner"] [1, 0]
  mC_StoodError : mg "StoodError" = some (.ref (ad 1))
  mC_CodeError : mg "CodeError" = some (.ref (ad 2))
  mC_NotUsable : mg "NotUsable" = some (.ref (ad 3))
  mC_TooMany : mg "TooMany" = some (.ref (ad 4))
  o_NotUsable : OexC K (ad 3)
  i_NotUsable : PySem.W.findIn K (.ref (ad 3)) "__init__" = some (some (.ref (ad 1003)))
  q_NotUsable : XfC K (ad 3)
  z_NotUsable : XiC K (ad 3)
  n_NotUsable_word : PySem.W.findIn K (.ref (ad 3)) "word" = some none
  n_NotUsable_at : PySem.W.findIn K (.ref (ad 3)) "at" = some none
  e_NotUsable_StoodError : PySem.W.exmOne K (.ref (ad 3)) (.ref (ad 1)) = some true
  k_NotUsable_CodeError : PySem.W.kitOne K (.ref (ad 3)) (.ref (ad 2)) = some true
  k_NotUsable_NotUsable : PySem.W.kitOne K (.ref (ad 3)) (.ref (ad 3)) = some true
  k_NotUsable_TooMany : PySem.W.kitOne K (.ref (ad 3)) (.ref (ad 4)) = some false
  FI_NotUsable : Fun K "__init__" "NotUsable.__init__" sI_NotUsable (ad 1003) (fdn 1003)
  bI_NotUsable : Binds K (fdn 1003) ["self", "word", "at"] []
  t_NotUsable : PySem.W.typeIn K (.ref (ad 1003)) = some (.type "function")
  b_abs : mg "abs" = none
  b_all : mg "all" = none
  b_bool : mg "bool" = none
  b_int : mg "int" = none
  b_isinstance : mg "isinstance" = none
  b_len : mg "len" = none
  b_list : mg "list" = none
  b_max : mg "max" = none
  b_min : mg "min" = none
  b_range : mg "range" = none
  b_reversed : mg "reversed" = none
  b_str : mg "str" = none
  b_tuple : mg "tuple" = none
end K16
/-  -/
end
section
set_option Elab.async false
set_option linter.all false
set_option maxRecDepth 100000
set_option maxHeartbeats 4000000
namespace K16
open PySem PySem.Spec L2 L2H Dn
open PyProof.Rows hiding St
theorem sc_init_NotUsable : FnScope ["self", "word", "at"] ["self", "word", "at"] (defScope sI_NotUsable) := ⟨rfl, rfl, rfl, by decide +kernel, rfl, by decide +kernel, by decide +kernel⟩
theorem ok_init_NotUsable {P : Program} {w : World} {base : Heap} {K : PySem.W.Frag} {mg : Str → Option Value} {ad : Nat → Addr} {fdn : Nat → FuncData} (T : Txt K mg ad fdn) : FnOk P w K mg base (L2N.CX P w) 1 (ad 1003) (fdn 1003) ["self", "word", "at"] (spI (ad 3) ["word", "at"]) := ok_init2 T.o_NotUsable T.FI_NotUsable sc_init_NotUsable rfl T.n_NotUsable_word T.n_NotUsable_at (fun X p a b => pvI 0 a b rfl (.inl rfl)) (fun X a b => pvI 1 a b rfl (.inl rfl)) (fun X a b => pvI 2 a b rfl (.inl rfl)) (fun _ => rfl) (fun _ => rfl)
theorem Txt.xf_at {K : PySem.W.Frag} {mg : Str → Option Value} {ad : Nat → Addr} {fdn : Nat → FuncData} (T : Txt K mg ad fdn) : ∀ (c : Str) (C : Addr), mg c = some (.ref C) → xKnown c = true → XfC K C ∧ PySem.W.findIn K (.ref C) "at" = some none := by
  intro c C hm hk
  by_cases e : c = "NotUsable"
  · subst e
    obtain rfl : ad 3 = C := by
      have z := T.mC_NotUsable.symm.trans hm
      injection z with z
      injection z
    exact ⟨T.q_NotUsable, T.n_NotUsable_at⟩
  simp_all [xKnown]
theorem Txt.xf_word {K : PySem.W.Frag} {mg : Str → Option Value} {ad : Nat → Addr} {fdn : Nat → FuncData} (T : Txt K mg ad fdn) : ∀ (c : Str) (C : Addr), mg c = some (.ref C) → xKnown c = true → XfC K C ∧ PySem.W.findIn K (.ref C) "word" = some none := by
  intro c C hm hk
  by_cases e : c = "NotUsable"
  · subst e
    obtain rfl : ad 3 = C := by
      have z := T.mC_NotUsable.symm.trans hm
      injection z with z
      injection z
    exact ⟨T.q_NotUsable, T.n_NotUsable_word⟩
  simp_all [xKnown]
theorem Txt.xi_CodeError {K : PySem.W.Frag} {mg : Str → Option Value} {ad : Nat → Addr} {fdn : Nat → FuncData} (T : Txt K mg ad fdn) : ∀ (c : Str) (C : Addr) (b : Bool), mg c = some (.ref C) → xIs_CodeError c = some b → XiC K C ∧ PySem.W.kitOne K (.ref C) (.ref (ad 2)) = some b := by
  intro c C b hm hk
  by_cases e : c = "NotUsable"
  · subst e
    obtain rfl : ad 3 = C := by
      have z := T.mC_NotUsable.symm.trans hm
      injection z with z
      injection z
    obtain rfl : true = b := by simpa [xIs_CodeError] using hk
    exact ⟨T.z_NotUsable, T.k_NotUsable_CodeError⟩
  simp_all [xIs_CodeError]
theorem Txt.xi_NotUsable {K : PySem.W.Frag} {mg : Str → Option Value} {ad : Nat → Addr} {fdn : Nat → FuncData} (T : Txt K mg ad fdn) : ∀ (c : Str) (C : Addr) (b : Bool), mg c = some (.ref C) → xIs_NotUsable c = some b → XiC K C ∧ PySem.W.kitOne K (.ref C) (.ref (ad 3)) = some b := by
  intro c C b hm hk
  by_cases e : c = "NotUsable"
  · subst e
    obtain rfl : ad 3 = C := by
      have z := T.mC_NotUsable.symm.trans hm
      injection z with z
      injection z
    obtain rfl : true = b := by simpa [xIs_NotUsable] using hk
    exact ⟨T.z_NotUsable, T.k_NotUsable_NotUsable⟩
  simp_all [xIs_NotUsable]
theorem Txt.xi_TooMany {K : PySem.W.Frag} {mg : Str → Option Value} {ad : Nat → Addr} {fdn : Nat → FuncData} (T : Txt K mg ad fdn) : ∀ (c : Str) (C : Addr) (b : Bool), mg c = some (.ref C) → xIs_TooMany c = some b → XiC K C ∧ PySem.W.kitOne K (.ref C) (.ref (ad 4)) = some b := by
  intro c C b hm hk
  by_cases e : c = "NotUsable"
  · subst e
    obtain rfl : ad 3 = C := by
      have z := T.mC_NotUsable.symm.trans hm
      injection z with z
      injection z
    obtain rfl : false = b := by simpa [xIs_TooMany] using hk
    exact ⟨T.z_NotUsable, T.k_NotUsable_TooMany⟩
  simp_all [xIs_TooMany]
theorem Txt.cat_StoodError {K : PySem.W.Frag} {mg : Str → Option Value} {ad : Nat → Addr} {fdn : Nat → FuncData} (T : Txt K mg ad fdn) : ∀ (c : Str) (C : Addr) (b : Bool), mg c = some (.ref C) → xCat_StoodError c = some b → PySem.W.exmOne K (.ref C) (.ref (ad 1)) = some b := by
  intro c C b hm hk
  by_cases e : c = "NotUsable"
  · subst e
    obtain rfl : ad 3 = C := by
      have z := T.mC_NotUsable.symm.trans hm
      injection z with z
      injection z
    obtain rfl : true = b := by simpa [xCat_StoodError] using hk
    exact T.e_NotUsable_StoodError
  simp_all [xCat_StoodError]
def fuel_d_mesh_counts_1 : Dn.Env → Nat := fun _ => 1000
/-! is_integer -/
def m_is_integer : MS :=
  mRet (mAnd (mOp (oIsi "int") [.nm 0]) (mNot (mOp (oIsi "bool") [.nm 0])))
def D_is_integer : List O → FR := fnD [0] 1 m_is_integer
theorem sc_is_integer : FnScope ["thing"] ["thing"] (defScope s_is_integer) := ⟨rfl, rfl, rfl, by decide +kernel, rfl, by decide +kernel, by decide +kernel⟩
theorem ok_is_integer {P : Program} {w : World} {K : PySem.W.Frag} {mg : Str → Option Value} {base : Heap} {ad : Nat → Addr} {fdn : Nat → FuncData} (T : Txt K mg ad fdn) : FnOk P w K mg base (L2N.CX P w) 1 (ad 6) (fdn 6) ["thing"] (FP K mg 1 D_is_integer) := by
  refine ok_def [0] T.F_is_integer sc_is_integer fun cdv A outer s H E hr => ?_
  have nd := sc_is_integer.nd
  have tk := L2N.takes_of (X := cxOf (L2N.CX P w) P w K mg base ["thing"] "is_integer" (defScope s_is_integer) (ad 6) cdv A outer s H E) rfl rfl rfl rfl
  have po := passes_of (X := cxOf (L2N.CX P w) P w K mg base ["thing"] "is_integer" (defScope s_is_integer) (ad 6) cdv A outer s H E) rfl
  exact (dss_one (ds_ret (de_and (de_isi (T := "int") T.b_isinstance T.b_int (dk_nm 0)) (de_one (de_not (de_isi (T := "bool") T.b_isinstance T.b_bool (dk_nm 0)))))))
/-! is_number -/
def m_is_number : MS :=
  mRet (mAnd (mCall D_is_integer [.nm 0]) (mOp oGe [.nm 0, .ex (mC (.int 0))]))
def D_is_number : List O → FR := fnD [0] 1 m_is_number
theorem sc_is_number : FnScope ["thing"] ["thing"] (defScope s_is_number) := ⟨rfl, rfl, rfl, by decide +kernel, rfl, by decide +kernel, by decide +kernel⟩
theorem ok_is_number {P : Program} {w : World} {K : PySem.W.Frag} {mg : Str → Option Value} {base : Heap} {ad : Nat → Addr} {fdn : Nat → FuncData} (T : Txt K mg ad fdn) : FnOk P w K mg base (L2N.CX P w) 2 (ad 7) (fdn 7) ["thing"] (FP K mg 1 D_is_number) := by
  refine ok_def [0] T.F_is_number sc_is_number fun cdv A outer s H E hr => ?_
  have nd := sc_is_number.nd
  have tk := L2N.takes_of (X := cxOf (L2N.CX P w) P w K mg base ["thing"] "is_number" (defScope s_is_number) (ad 7) cdv A outer s H E) rfl rfl rfl rfl
  have po := passes_of (X := cxOf (L2N.CX P w) P w K mg base ["thing"] "is_number" (defScope s_is_number) (ad 7) cdv A outer s H E) rfl
  exact (dss_one (ds_ret (de_and (de_call (ok_is_integer T) (hr.mono (by decide)) T.m_is_integer T.F_is_integer.kp T.b_is_integer tk (da_cons (dk_nm 0) da_nil)) (de_one (de_cmp op_ge s_ge (dk_nm 0) (dk_ex de_int))))))
/-! c_product -/
def m_c_product : MS :=
  mSeq (mSet 1 (mC (.int 1)))
  (mSeq (mFor (mIt itS (mN 0)) (gN 2) (mSet 1 (mOp oMul [.nm 1, .nm 2])))
  (mRet (mMv 1)))
def D_c_product : List O → FR := fnD [0] 3 m_c_product
theorem sc_c_product : FnScope ["numbers", "whole", "number"] ["numbers"] (defScope s_c_product) := ⟨rfl, rfl, rfl, by decide +kernel, rfl, by decide +kernel, by decide +kernel⟩
theorem ok_c_product {P : Program} {w : World} {K : PySem.W.Frag} {mg : Str → Option Value} {base : Heap} {ad : Nat → Addr} {fdn : Nat → FuncData} (T : Txt K mg ad fdn) : FnOk P w K mg base (L2N.CX P w) 1 (ad 9) (fdn 9) ["numbers"] (FP K mg 1 D_c_product) := by
  refine ok_def [0] T.F_c_product sc_c_product fun cdv A outer s H E hr => ?_
  have nd := sc_c_product.nd
  have tk := L2N.takes_of (X := cxOf (L2N.CX P w) P w K mg base ["numbers", "whole", "number"] "c_product" (defScope s_c_product) (ad 9) cdv A outer s H E) rfl rfl rfl rfl
  have po := passes_of (X := cxOf (L2N.CX P w) P w K mg base ["numbers", "whole", "number"] "c_product" (defScope s_c_product) (ad 9) cdv A outer s H E) rfl
  exact (dss_cons (ds_set (i := 1) nd de_int)
      (dss_cons (ds_for po rfl (di_seq (de_n 0)) (dg_n (i := 2) nd) (dss_one (ds_set (i := 1) nd (de_bin op_mulA s_mul (dk_nm 1) (dk_nm 2)))))
      (dss_one (ds_ret (de_mv 1)))))
/-! cuts_of -/
def m_cuts_of : MS :=
  mSeq (mIf (mB (mOp oLt [.ex (mOp oLen [.nm 0]), .ex (mC (.int 2))])) (mRaise "NotUsable" ["word", "at"] [.ex (mC (.str "sizes")), .ex (mOp oNeg [.ex (mC (.int 1))])]) (mPass))
  (mSeq (mSet 1 (mC (.int 1)))
  (mSeq (mSet 2 (mCall D_c_product [.nm 0]))
  (mSeq (mSet 3 (mAll oLst []))
  (mSeq (mFor (mIt itS (mSlice (.nm 0) none (some (mOp oSub [.ex (mOp oLen [.nm 0]), .ex (mC (.int 1))])))) (gN 4) (mSeq (mSet 1 (mOp oMul [.nm 1, .nm 4]))
  (mSeq (mSet 2 (mOp oDiv [.nm 2, .nm 4]))
  (mExpr (mMut 3 fApp [.ex (mOp oSub [.ex (mOp oPlus [.nm 1, .nm 2]), .ex (mC (.int 1))])])))))
  (mRet (mOp (op1 toTupN) [.nm 3]))))))
def D_cuts_of : List O → FR := fnD [0] 5 m_cuts_of
theorem sc_cuts_of : FnScope ["sizes", "ahead", "behind", "cuts", "size"] ["sizes"] (defScope s_cuts_of) := ⟨rfl, rfl, rfl, by decide +kernel, rfl, by decide +kernel, by decide +kernel⟩
theorem ok_cuts_of {P : Program} {w : World} {K : PySem.W.Frag} {mg : Str → Option Value} {base : Heap} {ad : Nat → Addr} {fdn : Nat → FuncData} (T : Txt K mg ad fdn) : FnOk P w K mg base (L2N.CX P w) 3 (ad 11) (fdn 11) ["sizes"] (FP K mg 1 D_cuts_of) := by
  refine ok_def [0] T.F_cuts_of sc_cuts_of fun cdv A outer s H E hr => ?_
  have nd := sc_cuts_of.nd
  have tk := L2N.takes_of (X := cxOf (L2N.CX P w) P w K mg base ["sizes", "ahead", "behind", "cuts", "size"] "cuts_of" (defScope s_cuts_of) (ad 11) cdv A outer s H E) rfl rfl rfl rfl
  have po := passes_of (X := cxOf (L2N.CX P w) P w K mg base ["sizes", "ahead", "behind", "cuts", "size"] "cuts_of" (defScope s_cuts_of) (ad 11) cdv A outer s H E) rfl
  exact (dss_cons (ds_if (dt_cmp op_lt s_lt (dk_ex (de_callB call_len_seq s_len T.b_len (da_cons (dk_nm 0) da_nil))) (dk_ex de_int)) (dss_one (ds_raise rfl tk T.o_NotUsable T.i_NotUsable T.t_NotUsable (ok_init_NotUsable T) (hr.mono (by decide)) T.bI_NotUsable T.mC_NotUsable (da_cons (dk_ex de_str) (da_cons (dk_ex (de_un un_neg s_neg (dk_ex de_int))) da_nil)))) dss_nil)
      (dss_cons (ds_set (i := 1) nd de_int)
      (dss_cons (ds_set (i := 2) nd (de_call (ok_c_product T) (hr.mono (by decide)) T.m_c_product T.F_c_product.kp T.b_c_product tk (da_cons (dk_nm 0) da_nil)))
      (dss_cons (ds_set (i := 3) nd (de_lst da_nil))
      (dss_cons (ds_for po rfl (di_seq (de_slice (dk_nm 0) dp_none (dp_some (de_bin op_sub s_sub (dk_ex (de_callB call_len_seq s_len T.b_len (da_cons (dk_nm 0) da_nil))) (dk_ex de_int))))) (dg_n (i := 4) nd) (dss_cons (ds_set (i := 1) nd (de_bin op_mulA s_mul (dk_nm 1) (dk_nm 4)))
      (dss_cons (ds_set (i := 2) nd (de_bin op_fdivW s_div (dk_nm 2) (dk_nm 4)))
      (dss_one (ds_expr (de_mut (i := 3) PySem.F.plainAttrs_list PySem.F.slot_list_append PySem.F.type_list_append mt_append s_app (da_cons (dk_ex (de_bin op_sub s_sub (dk_ex (de_bin op_plus s_plus (dk_nm 1) (dk_nm 2))) (dk_ex de_int))) da_nil)))))))
      (dss_one (ds_ret (de_callTy cr_tupN s_tupN T.b_tuple (da_cons (dk_nm 3) da_nil)))))))))
/-! cut_gap -/
def m_cut_gap : MS :=
  mSeq (mSet 1 (mCall D_cuts_of [.nm 0]))
  (mRet (mOp oPlus [.ex (mAlt (mLook oIndex (.nm 1) [.ex (mOp oMinA [.nm 1])]) (mLookT oTIdx (.nm 1) [.ex (mOp oMinA [.nm 1])])), .ex (mC (.int 1))]))
def D_cut_gap : List O → FR := fnD [0] 2 m_cut_gap
theorem sc_cut_gap : FnScope ["sizes", "cuts"] ["sizes"] (defScope s_cut_gap) := ⟨rfl, rfl, rfl, by decide +kernel, rfl, by decide +kernel, by decide +kernel⟩
theorem ok_cut_gap {P : Program} {w : World} {K : PySem.W.Frag} {mg : Str → Option Value} {base : Heap} {ad : Nat → Addr} {fdn : Nat → FuncData} (T : Txt K mg ad fdn) : FnOk P w K mg base (L2N.CX P w) 4 (ad 12) (fdn 12) ["sizes"] (FP K mg 1 D_cut_gap) := by
  refine ok_def [0] T.F_cut_gap sc_cut_gap fun cdv A outer s H E hr => ?_
  have nd := sc_cut_gap.nd
  have tk := L2N.takes_of (X := cxOf (L2N.CX P w) P w K mg base ["sizes", "cuts"] "cut_gap" (defScope s_cut_gap) (ad 12) cdv A outer s H E) rfl rfl rfl rfl
  have po := passes_of (X := cxOf (L2N.CX P w) P w K mg base ["sizes", "cuts"] "cut_gap" (defScope s_cut_gap) (ad 12) cdv A outer s H E) rfl
  exact (dss_cons (ds_set (i := 1) nd (de_call (ok_cuts_of T) (hr.mono (by decide)) T.m_cuts_of T.F_cuts_of.kp T.b_cuts_of tk (da_cons (dk_nm 0) da_nil)))
      (dss_one (ds_ret (de_bin op_plus s_plus (dk_ex (de_alt (de_look PySem.F.plainAttrs_list PySem.F.slot_list_index PySem.F.type_list_index mt_index lk_list s_index (dk_nm 1) (da_cons (dk_ex (de_callB (cr_minA rfl) s_minA T.b_min (da_cons (dk_nm 1) da_nil))) da_nil)) (de_look PySem.F.plainAttrs_tuple PySem.F.slot_tuple_index PySem.F.type_tuple_index mt_tidx lk_tup s_tidx (dk_nm 1) (da_cons (dk_ex (de_callB (cr_minA rfl) s_minA T.b_min (da_cons (dk_nm 1) da_nil))) da_nil)))) (dk_ex de_int)))))
/-! d_is_below -/
def m_d_is_below : MS :=
  mRet (mAnd (mCall D_is_number [.nm 0]) (mOp oLt [.nm 0, .nm 1]))
def D_d_is_below : List O → FR := fnD [0, 1] 2 m_d_is_below
theorem sc_d_is_below : FnScope ["thing", "limit"] ["thing", "limit"] (defScope s_d_is_below) := ⟨rfl, rfl, rfl, by decide +kernel, rfl, by decide +kernel, by decide +kernel⟩
theorem ok_d_is_below {P : Program} {w : World} {K : PySem.W.Frag} {mg : Str → Option Value} {base : Heap} {ad : Nat → Addr} {fdn : Nat → FuncData} (T : Txt K mg ad fdn) : FnOk P w K mg base (L2N.CX P w) 3 (ad 14) (fdn 14) ["thing", "limit"] (FP K mg 2 D_d_is_below) := by
  refine ok_def [0, 1] T.F_d_is_below sc_d_is_below fun cdv A outer s H E hr => ?_
  have nd := sc_d_is_below.nd
  have tk := L2N.takes_of (X := cxOf (L2N.CX P w) P w K mg base ["thing", "limit"] "d_is_below" (defScope s_d_is_below) (ad 14) cdv A outer s H E) rfl rfl rfl rfl
  have po := passes_of (X := cxOf (L2N.CX P w) P w K mg base ["thing", "limit"] "d_is_below" (defScope s_d_is_below) (ad 14) cdv A outer s H E) rfl
  exact (dss_one (ds_ret (de_and (de_call (ok_is_number T) (hr.mono (by decide)) T.m_is_number T.F_is_number.kp T.b_is_number tk (da_cons (dk_nm 0) da_nil)) (de_one (de_cmp op_lt s_lt (dk_nm 0) (dk_nm 1))))))
/-! d_product -/
def m_d_product : MS :=
  mSeq (mSet 1 (mC (.int 1)))
  (mSeq (mFor (mIt itS (mN 0)) (gN 2) (mAug 1 oMul (mN 2)))
  (mRet (mMv 1)))
def D_d_product : List O → FR := fnD [0] 3 m_d_product
theorem sc_d_product : FnScope ["sizes", "result", "size"] ["sizes"] (defScope s_d_product) := ⟨rfl, rfl, rfl, by decide +kernel, rfl, by decide +kernel, by decide +kernel⟩
theorem ok_d_product {P : Program} {w : World} {K : PySem.W.Frag} {mg : Str → Option Value} {base : Heap} {ad : Nat → Addr} {fdn : Nat → FuncData} (T : Txt K mg ad fdn) : FnOk P w K mg base (L2N.CX P w) 1 (ad 15) (fdn 15) ["sizes"] (FP K mg 1 D_d_product) := by
  refine ok_def [0] T.F_d_product sc_d_product fun cdv A outer s H E hr => ?_
  have nd := sc_d_product.nd
  have tk := L2N.takes_of (X := cxOf (L2N.CX P w) P w K mg base ["sizes", "result", "size"] "d_product" (defScope s_d_product) (ad 15) cdv A outer s H E) rfl rfl rfl rfl
  have po := passes_of (X := cxOf (L2N.CX P w) P w K mg base ["sizes", "result", "size"] "d_product" (defScope s_d_product) (ad 15) cdv A outer s H E) rfl
  exact (dss_cons (ds_set (i := 1) nd de_int)
      (dss_cons (ds_for po rfl (di_seq (de_n 0)) (dg_n (i := 2) nd) (dss_one (ds_aug (i := 1) nd iop_mulA s_mul (de_n 2))))
      (dss_one (ds_ret (de_mv 1)))))
/-! d_split -/
def m_d_split : MS :=
  mSeq (mIf (mB (mOp oLt [.ex (mOp oLen [.nm 0]), .ex (mC (.int 2))])) (mRet (mAll oTup [])) (mPass))
  (mSeq (mSet 1 (mCall D_cut_gap [.nm 0]))
  (mSeq (mSet 2 (mSlice (.nm 0) none (some (mN 1))))
  (mSeq (mSet 3 (mOp (op1 toRv) [.ex (mSlice (.nm 0) (some (mN 1)) none)]))
  (mRet (mAll oTup [.ex (mN 2), .ex (mN 3), .ex (mCall D_d_product [.nm 2]), .ex (mCall D_d_product [.nm 3]), .ex (mOp oIx [.nm 0, .ex (mOp oSub [.nm 1, .ex (mC (.int 1))])]), .ex (mOp oIx [.nm 0, .nm 1])])))))
def D_d_split : List O → FR := fnD [0] 4 m_d_split
theorem sc_d_split : FnScope ["inner", "gap", "lefts", "rights"] ["inner"] (defScope s_d_split) := ⟨rfl, rfl, rfl, by decide +kernel, rfl, by decide +kernel, by decide +kernel⟩
theorem ok_d_split {P : Program} {w : World} {K : PySem.W.Frag} {mg : Str → Option Value} {base : Heap} {ad : Nat → Addr} {fdn : Nat → FuncData} (T : Txt K mg ad fdn) : FnOk P w K mg base (L2N.CX P w) 5 (ad 16) (fdn 16) ["inner"] (FP K mg 1 D_d_split) := by
  refine ok_def [0] T.F_d_split sc_d_split fun cdv A outer s H E hr => ?_
  have nd := sc_d_split.nd
  have tk := L2N.takes_of (X := cxOf (L2N.CX P w) P w K mg base ["inner", "gap", "lefts", "rights"] "d_split" (defScope s_d_split) (ad 16) cdv A outer s H E) rfl rfl rfl rfl
  have po := passes_of (X := cxOf (L2N.CX P w) P w K mg base ["inner", "gap", "lefts", "rights"] "d_split" (defScope s_d_split) (ad 16) cdv A outer s H E) rfl
  exact (dss_cons (ds_if (dt_cmp op_lt s_lt (dk_ex (de_callB call_len_seq s_len T.b_len (da_cons (dk_nm 0) da_nil))) (dk_ex de_int)) (dss_one (ds_ret (de_tup da_nil))) dss_nil)
      (dss_cons (ds_set (i := 1) nd (de_call (ok_cut_gap T) (hr.mono (by decide)) T.m_cut_gap T.F_cut_gap.kp T.b_cut_gap tk (da_cons (dk_nm 0) da_nil)))
      (dss_cons (ds_set (i := 2) nd (de_slice (dk_nm 0) dp_none (dp_some (de_n 1))))
      (dss_cons (ds_set (i := 3) nd (de_rv (dk_ex (de_slice (dk_nm 0) (dp_some (de_n 1)) dp_none))))
      (dss_one (ds_ret (de_tup (da_cons (dk_ex (de_n 2)) (da_cons (dk_ex (de_n 3)) (da_cons (dk_ex (de_call (ok_d_product T) (hr.mono (by decide)) T.m_d_product T.F_d_product.kp T.b_d_product tk (da_cons (dk_nm 2) da_nil))) (da_cons (dk_ex (de_call (ok_d_product T) (hr.mono (by decide)) T.m_d_product T.F_d_product.kp T.b_d_product tk (da_cons (dk_nm 3) da_nil))) (da_cons (dk_ex (de_ix ix_lt s_ix (dk_nm 0) (dk_ex (de_bin op_sub s_sub (dk_nm 1) (dk_ex de_int))))) (da_cons (dk_ex (de_ix ix_lt s_ix (dk_nm 0) (dk_nm 1))) da_nil)))))))))))))
/-! d_mesh_left -/
def m_d_mesh_left : MS :=
  mSeq (mUnp (mSlice (.nm 0) (some (mC (.int 2))) none) (gT [gN 2, gN 3, gN 4, gN 5]))
  (mRet (mOp oMin2 [.ex (mOp oMul [.nm 1, .nm 4]), .ex (mOp oSub [.ex (mOp oSub [.nm 2, .ex (mC (.int 1))]), .ex (mOp oDiv [.ex (mOp oSub [.ex (mOp oSub [.nm 3, .ex (mC (.int 1))]), .nm 1]), .nm 5])])]))
def D_d_mesh_left : List O → FR := fnD [0, 1] 6 m_d_mesh_left
theorem sc_d_mesh_left : FnScope ["halves", "right", "left_many", "right_many", "last", "first"] ["halves", "right"] (defScope s_d_mesh_left) := ⟨rfl, rfl, rfl, by decide +kernel, rfl, by decide +kernel, by decide +kernel⟩
theorem ok_d_mesh_left {P : Program} {w : World} {K : PySem.W.Frag} {mg : Str → Option Value} {base : Heap} {ad : Nat → Addr} {fdn : Nat → FuncData} (T : Txt K mg ad fdn) : FnOk P w K mg base (L2N.CX P w) 1 (ad 17) (fdn 17) ["halves", "right"] (FP K mg 2 D_d_mesh_left) := by
  refine ok_def [0, 1] T.F_d_mesh_left sc_d_mesh_left fun cdv A outer s H E hr => ?_
  have nd := sc_d_mesh_left.nd
  have tk := L2N.takes_of (X := cxOf (L2N.CX P w) P w K mg base ["halves", "right", "left_many", "right_many", "last", "first"] "d_mesh_left" (defScope s_d_mesh_left) (ad 17) cdv A outer s H E) rfl rfl rfl rfl
  have po := passes_of (X := cxOf (L2N.CX P w) P w K mg base ["halves", "right", "left_many", "right_many", "last", "first"] "d_mesh_left" (defScope s_d_mesh_left) (ad 17) cdv A outer s H E) rfl
  exact (dss_cons (ds_unp (de_slice (dk_nm 0) (dp_some de_int) dp_none) (dg_t rfl (dgs_cons (dg_n (i := 2) nd) (dgs_cons (dg_n (i := 3) nd) (dgs_cons (dg_n (i := 4) nd) (dgs_cons (dg_n (i := 5) nd) dgs_nil))))))
      (dss_one (ds_ret (de_callB (call_min2 rfl) s_min2 T.b_min (da_cons (dk_ex (de_bin op_mulA s_mul (dk_nm 1) (dk_nm 4))) (da_cons (dk_ex (de_bin op_sub s_sub (dk_ex (de_bin op_sub s_sub (dk_nm 2) (dk_ex de_int))) (dk_ex (de_bin op_fdivW s_div (dk_ex (de_bin op_sub s_sub (dk_ex (de_bin op_sub s_sub (dk_nm 3) (dk_ex de_int))) (dk_nm 1))) (dk_nm 5))))) da_nil))))))
/-! d_mesh_rights -/
def m_d_mesh_rights : MS :=
  mSeq (mIf (mB (mOp (oEq false) [.nm 1, .ex (mC (.int 0))])) (mRet (mC (.int 0))) (mPass))
  (mSeq (mUnp (mSlice (.nm 0) (some (mC (.int 2))) none) (gT [gN 2, gN 3, gN 4, gN 5]))
  (mRet (mOp oMax2 [.ex (mOp oDiv [.ex (mOp oSub [.nm 1, .ex (mC (.int 1))]), .nm 4]), .ex (mOp oSub [.ex (mOp oSub [.nm 3, .ex (mC (.int 1))]), .ex (mOp oMul [.nm 5, .ex (mOp oSub [.nm 2, .nm 1])])])])))
def D_d_mesh_rights : List O → FR := fnD [0, 1] 6 m_d_mesh_rights
theorem sc_d_mesh_rights : FnScope ["halves", "left", "left_many", "right_many", "last", "first"] ["halves", "left"] (defScope s_d_mesh_rights) := ⟨rfl, rfl, rfl, by decide +kernel, rfl, by decide +kernel, by decide +kernel⟩
theorem ok_d_mesh_rights {P : Program} {w : World} {K : PySem.W.Frag} {mg : Str → Option Value} {base : Heap} {ad : Nat → Addr} {fdn : Nat → FuncData} (T : Txt K mg ad fdn) : FnOk P w K mg base (L2N.CX P w) 1 (ad 18) (fdn 18) ["halves", "left"] (FP K mg 2 D_d_mesh_rights) := by
  refine ok_def [0, 1] T.F_d_mesh_rights sc_d_mesh_rights fun cdv A outer s H E hr => ?_
  have nd := sc_d_mesh_rights.nd
  have tk := L2N.takes_of (X := cxOf (L2N.CX P w) P w K mg base ["halves", "left", "left_many", "right_many", "last", "first"] "d_mesh_rights" (defScope s_d_mesh_rights) (ad 18) cdv A outer s H E) rfl rfl rfl rfl
  have po := passes_of (X := cxOf (L2N.CX P w) P w K mg base ["halves", "left", "left_many", "right_many", "last", "first"] "d_mesh_rights" (defScope s_d_mesh_rights) (ad 18) cdv A outer s H E) rfl
  exact (dss_cons (ds_if (dt_cmp (op_eqD hr.units) s_eq (dk_nm 1) (dk_ex de_int)) (dss_one (ds_ret de_int)) dss_nil)
      (dss_cons (ds_unp (de_slice (dk_nm 0) (dp_some de_int) dp_none) (dg_t rfl (dgs_cons (dg_n (i := 2) nd) (dgs_cons (dg_n (i := 3) nd) (dgs_cons (dg_n (i := 4) nd) (dgs_cons (dg_n (i := 5) nd) dgs_nil))))))
      (dss_one (ds_ret (de_callB (call_max2 rfl) s_max2 T.b_max (da_cons (dk_ex (de_bin op_fdivW s_div (dk_ex (de_bin op_sub s_sub (dk_nm 1) (dk_ex de_int))) (dk_nm 4))) (da_cons (dk_ex (de_bin op_sub s_sub (dk_ex (de_bin op_sub s_sub (dk_nm 3) (dk_ex de_int))) (dk_ex (de_bin op_mulA s_mul (dk_nm 5) (dk_ex (de_bin op_sub s_sub (dk_nm 2) (dk_nm 1))))))) da_nil)))))))
/-! d_mesh_counts -/
def m_d_mesh_counts : MS :=
  mSeq (mSet 2 (mC (.int 0)))
  (mSeq (mSet 3 (mOp oSub [.ex (mOp oIx [.nm 0, .ex (mC (.int 2))]), .ex (mC (.int 1))]))
  (mSeq (mWhile fuel_d_mesh_counts_1 (mB (mOp oLt [.nm 2, .nm 3])) (mSeq (mSet 4 (mOp oDiv [.ex (mOp oPlus [.ex (mOp oPlus [.nm 2, .nm 3]), .ex (mC (.int 1))]), .ex (mC (.int 2))]))
  (mIf (mB (mOp oLe [.ex (mOp oPlus [.nm 4, .ex (mCall D_d_mesh_rights [.nm 0, .nm 4])]), .nm 1])) (mSet 2 (mN 4)) (mSet 3 (mOp oSub [.nm 4, .ex (mC (.int 1))])))))
  (mRet (mAll oTup [.ex (mN 2), .ex (mOp oSub [.nm 1, .nm 2])]))))
def D_d_mesh_counts : List O → FR := fnD [0, 1] 5 m_d_mesh_counts
theorem sc_d_mesh_counts : FnScope ["halves", "stage", "low", "high", "middle"] ["halves", "stage"] (defScope s_d_mesh_counts) := ⟨rfl, rfl, rfl, by decide +kernel, rfl, by decide +kernel, by decide +kernel⟩
theorem ok_d_mesh_counts {P : Program} {w : World} {K : PySem.W.Frag} {mg : Str → Option Value} {base : Heap} {ad : Nat → Addr} {fdn : Nat → FuncData} (T : Txt K mg ad fdn) : FnOk P w K mg base (L2N.CX P w) 2 (ad 19) (fdn 19) ["halves", "stage"] (FP K mg 2 D_d_mesh_counts) := by
  refine ok_def [0, 1] T.F_d_mesh_counts sc_d_mesh_counts fun cdv A outer s H E hr => ?_
  have nd := sc_d_mesh_counts.nd
  have tk := L2N.takes_of (X := cxOf (L2N.CX P w) P w K mg base ["halves", "stage", "low", "high", "middle"] "d_mesh_counts" (defScope s_d_mesh_counts) (ad 19) cdv A outer s H E) rfl rfl rfl rfl
  have po := passes_of (X := cxOf (L2N.CX P w) P w K mg base ["halves", "stage", "low", "high", "middle"] "d_mesh_counts" (defScope s_d_mesh_counts) (ad 19) cdv A outer s H E) rfl
  exact (dss_cons (ds_set (i := 2) nd de_int)
      (dss_cons (ds_set (i := 3) nd (de_bin op_sub s_sub (dk_ex (de_ix ix_lt s_ix (dk_nm 0) (dk_ex de_int))) (dk_ex de_int)))
      (dss_cons (ds_while fuel_d_mesh_counts_1 po (dt_cmp op_lt s_lt (dk_nm 2) (dk_nm 3)) (dss_cons (ds_set (i := 4) nd (de_bin op_fdivW s_div (dk_ex (de_bin op_plus s_plus (dk_ex (de_bin op_plus s_plus (dk_nm 2) (dk_nm 3))) (dk_ex de_int))) (dk_ex de_int)))
      (dss_one (ds_if (dt_cmp op_le s_le (dk_ex (de_bin op_plus s_plus (dk_nm 4) (dk_ex (de_call (ok_d_mesh_rights T) (hr.mono (by decide)) T.m_d_mesh_rights T.F_d_mesh_rights.kp T.b_d_mesh_rights tk (da_cons (dk_nm 0) (da_cons (dk_nm 4) da_nil)))))) (dk_nm 1)) (dss_one (ds_set (i := 2) nd (de_n 4))) (dss_one (ds_set (i := 3) nd (de_bin op_sub s_sub (dk_nm 4) (dk_ex de_int))))))))
      (dss_one (ds_ret (de_tup (da_cons (dk_ex (de_n 2)) (da_cons (dk_ex (de_bin op_sub s_sub (dk_nm 1) (dk_nm 2))) da_nil))))))))
/-! d_mesh_halves -/
def m_d_mesh_halves : MS :=
  mSeq (mIf (mB (mOp oLt [.ex (mOp oLen [.nm 0]), .ex (mC (.int 2))])) (mRaise "NotUsable" ["word", "at"] [.ex (mC (.str "inner")), .ex (mOp oNeg [.ex (mC (.int 1))])]) (mPass))
  (mRet (mCall D_d_split [.nm 0]))
def D_d_mesh_halves : List O → FR := fnD [0] 1 m_d_mesh_halves
theorem sc_d_mesh_halves : FnScope ["inner"] ["inner"] (defScope s_d_mesh_halves) := ⟨rfl, rfl, rfl, by decide +kernel, rfl, by decide +kernel, by decide +kernel⟩
theorem ok_d_mesh_halves {P : Program} {w : World} {K : PySem.W.Frag} {mg : Str → Option Value} {base : Heap} {ad : Nat → Addr} {fdn : Nat → FuncData} (T : Txt K mg ad fdn) : FnOk P w K mg base (L2N.CX P w) 6 (ad 21) (fdn 21) ["inner"] (FP K mg 1 D_d_mesh_halves) := by
  refine ok_def [0] T.F_d_mesh_halves sc_d_mesh_halves fun cdv A outer s H E hr => ?_
  have nd := sc_d_mesh_halves.nd
  have tk := L2N.takes_of (X := cxOf (L2N.CX P w) P w K mg base ["inner"] "d_mesh_halves" (defScope s_d_mesh_halves) (ad 21) cdv A outer s H E) rfl rfl rfl rfl
  have po := passes_of (X := cxOf (L2N.CX P w) P w K mg base ["inner"] "d_mesh_halves" (defScope s_d_mesh_halves) (ad 21) cdv A outer s H E) rfl
  exact (dss_cons (ds_if (dt_cmp op_lt s_lt (dk_ex (de_callB call_len_seq s_len T.b_len (da_cons (dk_nm 0) da_nil))) (dk_ex de_int)) (dss_one (ds_raise rfl tk T.o_NotUsable T.i_NotUsable T.t_NotUsable (ok_init_NotUsable T) (hr.mono (by decide)) T.bI_NotUsable T.mC_NotUsable (da_cons (dk_ex de_str) (da_cons (dk_ex (de_un un_neg s_neg (dk_ex de_int))) da_nil)))) dss_nil)
      (dss_one (ds_ret (de_call (ok_d_split T) (hr.mono (by decide)) T.m_d_split T.F_d_split.kp T.b_d_split tk (da_cons (dk_nm 0) da_nil)))))
/-! halves_of -/
def m_halves_of : MS :=
  mRet (mSlice (.ex (mCall D_d_mesh_halves [.nm 0])) (some (mC (.int 2))) none)
def D_halves_of : List O → FR := fnD [0] 1 m_halves_of
theorem sc_halves_of : FnScope ["inner"] ["inner"] (defScope s_halves_of) := ⟨rfl, rfl, rfl, by decide +kernel, rfl, by decide +kernel, by decide +kernel⟩
theorem ok_halves_of {P : Program} {w : World} {K : PySem.W.Frag} {mg : Str → Option Value} {base : Heap} {ad : Nat → Addr} {fdn : Nat → FuncData} (T : Txt K mg ad fdn) : FnOk P w K mg base (L2N.CX P w) 7 (ad 22) (fdn 22) ["inner"] (FP K mg 1 D_halves_of) := by
  refine ok_def [0] T.F_halves_of sc_halves_of fun cdv A outer s H E hr => ?_
  have nd := sc_halves_of.nd
  have tk := L2N.takes_of (X := cxOf (L2N.CX P w) P w K mg base ["inner"] "halves_of" (defScope s_halves_of) (ad 22) cdv A outer s H E) rfl rfl rfl rfl
  have po := passes_of (X := cxOf (L2N.CX P w) P w K mg base ["inner"] "halves_of" (defScope s_halves_of) (ad 22) cdv A outer s H E) rfl
  exact (dss_one (ds_ret (de_slice (dk_ex (de_call (ok_d_mesh_halves T) (hr.mono (by decide)) T.m_d_mesh_halves T.F_d_mesh_halves.kp T.b_d_mesh_halves tk (da_cons (dk_nm 0) da_nil))) (dp_some de_int) dp_none)))
/-! right_comes -/
def m_right_comes : MS :=
  mSeq (mSet 2 (mCall D_d_mesh_halves [.nm 0]))
  (mSeq (mIf (mTOr (mTNot (mB (mCall D_d_is_below [.nm 1, .ex (mOp oIx [.nm 2, .ex (mC (.int 3))])]))) (mB (mOp (oEq false) [.nm 1, .ex (mC (.int 0))]))) (mRaise "NotUsable" ["word", "at"] [.ex (mC (.str "right")), .ex (mOp oNeg [.ex (mC (.int 1))])]) (mPass))
  (mRet (mCall D_d_mesh_left [.nm 2, .nm 1])))
def D_right_comes : List O → FR := fnD [0, 1] 3 m_right_comes
theorem sc_right_comes : FnScope ["inner", "right", "halves"] ["inner", "right"] (defScope s_right_comes) := ⟨rfl, rfl, rfl, by decide +kernel, rfl, by decide +kernel, by decide +kernel⟩
theorem ok_right_comes {P : Program} {w : World} {K : PySem.W.Frag} {mg : Str → Option Value} {base : Heap} {ad : Nat → Addr} {fdn : Nat → FuncData} (T : Txt K mg ad fdn) : FnOk P w K mg base (L2N.CX P w) 7 (ad 23) (fdn 23) ["inner", "right"] (FP K mg 2 D_right_comes) := by
  refine ok_def [0, 1] T.F_right_comes sc_right_comes fun cdv A outer s H E hr => ?_
  have nd := sc_right_comes.nd
  have tk := L2N.takes_of (X := cxOf (L2N.CX P w) P w K mg base ["inner", "right", "halves"] "right_comes" (defScope s_right_comes) (ad 23) cdv A outer s H E) rfl rfl rfl rfl
  have po := passes_of (X := cxOf (L2N.CX P w) P w K mg base ["inner", "right", "halves"] "right_comes" (defScope s_right_comes) (ad 23) cdv A outer s H E) rfl
  exact (dss_cons (ds_set (i := 2) nd (de_call (ok_d_mesh_halves T) (hr.mono (by decide)) T.m_d_mesh_halves T.F_d_mesh_halves.kp T.b_d_mesh_halves tk (da_cons (dk_nm 0) da_nil)))
      (dss_cons (ds_if (dt_w (dw_or (dt_not (dt_val (de_call (ok_d_is_below T) (hr.mono (by decide)) T.m_d_is_below T.F_d_is_below.kp T.b_d_is_below tk (da_cons (dk_nm 1) (da_cons (dk_ex (de_ix ix_lt s_ix (dk_nm 2) (dk_ex de_int))) da_nil))))) (dw_or1 (dt_cmp (op_eqD hr.units) s_eq (dk_nm 1) (dk_ex de_int))))) (dss_one (ds_raise rfl tk T.o_NotUsable T.i_NotUsable T.t_NotUsable (ok_init_NotUsable T) (hr.mono (by decide)) T.bI_NotUsable T.mC_NotUsable (da_cons (dk_ex de_str) (da_cons (dk_ex (de_un un_neg s_neg (dk_ex de_int))) da_nil)))) dss_nil)
      (dss_one (ds_ret (de_call (ok_d_mesh_left T) (hr.mono (by decide)) T.m_d_mesh_left T.F_d_mesh_left.kp T.b_d_mesh_left tk (da_cons (dk_nm 2) (da_cons (dk_nm 1) da_nil)))))))
/-! rights_ahead -/
def m_rights_ahead : MS :=
  mSeq (mSet 2 (mCall D_d_mesh_halves [.nm 0]))
  (mSeq (mIf (mTNot (mB (mCall D_d_is_below [.nm 1, .ex (mOp oIx [.nm 2, .ex (mC (.int 2))])]))) (mRaise "NotUsable" ["word", "at"] [.ex (mC (.str "left")), .ex (mOp oNeg [.ex (mC (.int 1))])]) (mPass))
  (mRet (mCall D_d_mesh_rights [.nm 2, .nm 1])))
def D_rights_ahead : List O → FR := fnD [0, 1] 3 m_rights_ahead
theorem sc_rights_ahead : FnScope ["inner", "left", "halves"] ["inner", "left"] (defScope s_rights_ahead) := ⟨rfl, rfl, rfl, by decide +kernel, rfl, by decide +kernel, by decide +kernel⟩
theorem ok_rights_ahead {P : Program} {w : World} {K : PySem.W.Frag} {mg : Str → Option Value} {base : Heap} {ad : Nat → Addr} {fdn : Nat → FuncData} (T : Txt K mg ad fdn) : FnOk P w K mg base (L2N.CX P w) 7 (ad 24) (fdn 24) ["inner", "left"] (FP K mg 2 D_rights_ahead) := by
  refine ok_def [0, 1] T.F_rights_ahead sc_rights_ahead fun cdv A outer s H E hr => ?_
  have nd := sc_rights_ahead.nd
  have tk := L2N.takes_of (X := cxOf (L2N.CX P w) P w K mg base ["inner", "left", "halves"] "rights_ahead" (defScope s_rights_ahead) (ad 24) cdv A outer s H E) rfl rfl rfl rfl
  have po := passes_of (X := cxOf (L2N.CX P w) P w K mg base ["inner", "left", "halves"] "rights_ahead" (defScope s_rights_ahead) (ad 24) cdv A outer s H E) rfl
  exact (dss_cons (ds_set (i := 2) nd (de_call (ok_d_mesh_halves T) (hr.mono (by decide)) T.m_d_mesh_halves T.F_d_mesh_halves.kp T.b_d_mesh_halves tk (da_cons (dk_nm 0) da_nil)))
      (dss_cons (ds_if (dt_not (dt_val (de_call (ok_d_is_below T) (hr.mono (by decide)) T.m_d_is_below T.F_d_is_below.kp T.b_d_is_below tk (da_cons (dk_nm 1) (da_cons (dk_ex (de_ix ix_lt s_ix (dk_nm 2) (dk_ex de_int))) da_nil))))) (dss_one (ds_raise rfl tk T.o_NotUsable T.i_NotUsable T.t_NotUsable (ok_init_NotUsable T) (hr.mono (by decide)) T.bI_NotUsable T.mC_NotUsable (da_cons (dk_ex de_str) (da_cons (dk_ex (de_un un_neg s_neg (dk_ex de_int))) da_nil)))) dss_nil)
      (dss_one (ds_ret (de_call (ok_d_mesh_rights T) (hr.mono (by decide)) T.m_d_mesh_rights T.F_d_mesh_rights.kp T.b_d_mesh_rights tk (da_cons (dk_nm 2) (da_cons (dk_nm 1) da_nil)))))))
/-! counts_at -/
def m_counts_at : MS :=
  mSeq (mSet 2 (mCall D_d_mesh_halves [.nm 0]))
  (mSeq (mIf (mTNot (mB (mCall D_d_is_below [.nm 1, .ex (mOp oSub [.ex (mOp oPlus [.ex (mOp oIx [.nm 2, .ex (mC (.int 2))]), .ex (mOp oIx [.nm 2, .ex (mC (.int 3))])]), .ex (mC (.int 1))])]))) (mRaise "NotUsable" ["word", "at"] [.ex (mC (.str "stage")), .ex (mOp oNeg [.ex (mC (.int 1))])]) (mPass))
  (mRet (mCall D_d_mesh_counts [.nm 2, .nm 1])))
def D_counts_at : List O → FR := fnD [0, 1] 3 m_counts_at
theorem sc_counts_at : FnScope ["inner", "stage", "halves"] ["inner", "stage"] (defScope s_counts_at) := ⟨rfl, rfl, rfl, by decide +kernel, rfl, by decide +kernel, by decide +kernel⟩
theorem ok_counts_at {P : Program} {w : World} {K : PySem.W.Frag} {mg : Str → Option Value} {base : Heap} {ad : Nat → Addr} {fdn : Nat → FuncData} (T : Txt K mg ad fdn) : FnOk P w K mg base (L2N.CX P w) 7 (ad 25) (fdn 25) ["inner", "stage"] (FP K mg 2 D_counts_at) := by
  refine ok_def [0, 1] T.F_counts_at sc_counts_at fun cdv A outer s H E hr => ?_
  have nd := sc_counts_at.nd
  have tk := L2N.takes_of (X := cxOf (L2N.CX P w) P w K mg base ["inner", "stage", "halves"] "counts_at" (defScope s_counts_at) (ad 25) cdv A outer s H E) rfl rfl rfl rfl
  have po := passes_of (X := cxOf (L2N.CX P w) P w K mg base ["inner", "stage", "halves"] "counts_at" (defScope s_counts_at) (ad 25) cdv A outer s H E) rfl
  exact (dss_cons (ds_set (i := 2) nd (de_call (ok_d_mesh_halves T) (hr.mono (by decide)) T.m_d_mesh_halves T.F_d_mesh_halves.kp T.b_d_mesh_halves tk (da_cons (dk_nm 0) da_nil)))
      (dss_cons (ds_if (dt_not (dt_val (de_call (ok_d_is_below T) (hr.mono (by decide)) T.m_d_is_below T.F_d_is_below.kp T.b_d_is_below tk (da_cons (dk_nm 1) (da_cons (dk_ex (de_bin op_sub s_sub (dk_ex (de_bin op_plus s_plus (dk_ex (de_ix ix_lt s_ix (dk_nm 2) (dk_ex de_int))) (dk_ex (de_ix ix_lt s_ix (dk_nm 2) (dk_ex de_int))))) (dk_ex de_int))) da_nil))))) (dss_one (ds_raise rfl tk T.o_NotUsable T.i_NotUsable T.t_NotUsable (ok_init_NotUsable T) (hr.mono (by decide)) T.bI_NotUsable T.mC_NotUsable (da_cons (dk_ex de_str) (da_cons (dk_ex (de_un un_neg s_neg (dk_ex de_int))) da_nil)))) dss_nil)
      (dss_one (ds_ret (de_call (ok_d_mesh_counts T) (hr.mono (by decide)) T.m_d_mesh_counts T.F_d_mesh_counts.kp T.b_d_mesh_counts tk (da_cons (dk_nm 2) (da_cons (dk_nm 1) da_nil)))))))
/-! left_begins -/
def m_left_begins : MS :=
  mRet (mOp oPlus [.nm 1, .ex (mCall D_rights_ahead [.nm 0, .nm 1])])
def D_left_begins : List O → FR := fnD [0, 1] 2 m_left_begins
theorem sc_left_begins : FnScope ["inner", "left"] ["inner", "left"] (defScope s_left_begins) := ⟨rfl, rfl, rfl, by decide +kernel, rfl, by decide +kernel, by decide +kernel⟩
theorem ok_left_begins {P : Program} {w : World} {K : PySem.W.Frag} {mg : Str → Option Value} {base : Heap} {ad : Nat → Addr} {fdn : Nat → FuncData} (T : Txt K mg ad fdn) : FnOk P w K mg base (L2N.CX P w) 8 (ad 26) (fdn 26) ["inner", "left"] (FP K mg 2 D_left_begins) := by
  refine ok_def [0, 1] T.F_left_begins sc_left_begins fun cdv A outer s H E hr => ?_
  have nd := sc_left_begins.nd
  have tk := L2N.takes_of (X := cxOf (L2N.CX P w) P w K mg base ["inner", "left"] "left_begins" (defScope s_left_begins) (ad 26) cdv A outer s H E) rfl rfl rfl rfl
  have po := passes_of (X := cxOf (L2N.CX P w) P w K mg base ["inner", "left"] "left_begins" (defScope s_left_begins) (ad 26) cdv A outer s H E) rfl
  exact (dss_one (ds_ret (de_bin op_plus s_plus (dk_nm 1) (dk_ex (de_call (ok_rights_ahead T) (hr.mono (by decide)) T.m_rights_ahead T.F_rights_ahead.kp T.b_rights_ahead tk (da_cons (dk_nm 0) (da_cons (dk_nm 1) da_nil)))))))
/-! right_begins -/
def m_right_begins : MS :=
  mSeq (mSet 2 (mCall D_d_mesh_halves [.nm 0]))
  (mSeq (mIf (mTNot (mB (mCall D_d_is_below [.nm 1, .ex (mOp oIx [.nm 2, .ex (mC (.int 3))])]))) (mRaise "NotUsable" ["word", "at"] [.ex (mC (.str "right")), .ex (mOp oNeg [.ex (mC (.int 1))])]) (mPass))
  (mSeq (mIf (mB (mOp (oEq false) [.nm 1, .ex (mC (.int 0))])) (mRet (mC (.int 0))) (mPass))
  (mRet (mOp oPlus [.nm 1, .ex (mCall D_d_mesh_left [.nm 2, .nm 1])]))))
def D_right_begins : List O → FR := fnD [0, 1] 3 m_right_begins
theorem sc_right_begins : FnScope ["inner", "right", "halves"] ["inner", "right"] (defScope s_right_begins) := ⟨rfl, rfl, rfl, by decide +kernel, rfl, by decide +kernel, by decide +kernel⟩
theorem ok_right_begins {P : Program} {w : World} {K : PySem.W.Frag} {mg : Str → Option Value} {base : Heap} {ad : Nat → Addr} {fdn : Nat → FuncData} (T : Txt K mg ad fdn) : FnOk P w K mg base (L2N.CX P w) 7 (ad 27) (fdn 27) ["inner", "right"] (FP K mg 2 D_right_begins) := by
  refine ok_def [0, 1] T.F_right_begins sc_right_begins fun cdv A outer s H E hr => ?_
  have nd := sc_right_begins.nd
  have tk := L2N.takes_of (X := cxOf (L2N.CX P w) P w K mg base ["inner", "right", "halves"] "right_begins" (defScope s_right_begins) (ad 27) cdv A outer s H E) rfl rfl rfl rfl
  have po := passes_of (X := cxOf (L2N.CX P w) P w K mg base ["inner", "right", "halves"] "right_begins" (defScope s_right_begins) (ad 27) cdv A outer s H E) rfl
  exact (dss_cons (ds_set (i := 2) nd (de_call (ok_d_mesh_halves T) (hr.mono (by decide)) T.m_d_mesh_halves T.F_d_mesh_halves.kp T.b_d_mesh_halves tk (da_cons (dk_nm 0) da_nil)))
      (dss_cons (ds_if (dt_not (dt_val (de_call (ok_d_is_below T) (hr.mono (by decide)) T.m_d_is_below T.F_d_is_below.kp T.b_d_is_below tk (da_cons (dk_nm 1) (da_cons (dk_ex (de_ix ix_lt s_ix (dk_nm 2) (dk_ex de_int))) da_nil))))) (dss_one (ds_raise rfl tk T.o_NotUsable T.i_NotUsable T.t_NotUsable (ok_init_NotUsable T) (hr.mono (by decide)) T.bI_NotUsable T.mC_NotUsable (da_cons (dk_ex de_str) (da_cons (dk_ex (de_un un_neg s_neg (dk_ex de_int))) da_nil)))) dss_nil)
      (dss_cons (ds_if (dt_cmp (op_eqD hr.units) s_eq (dk_nm 1) (dk_ex de_int)) (dss_one (ds_ret de_int)) dss_nil)
      (dss_one (ds_ret (de_bin op_plus s_plus (dk_nm 1) (dk_ex (de_call (ok_d_mesh_left T) (hr.mono (by decide)) T.m_d_mesh_left T.F_d_mesh_left.kp T.b_d_mesh_left tk (da_cons (dk_nm 2) (da_cons (dk_nm 1) da_nil))))))))))
/-! _law_open -/
def m__law_open : MS :=
  mSeq (mSet 1 (mC (.int 0)))
  (mSeq (mSet 2 (mC (.int 41077)))
  (mSeq (mSet 3 (mC (.int 8809)))
  (mSeq (mFor (mIt itS (mN 0)) (gN 4) (mSeq (mSet 5 (mOp oInt [.nm 4]))
  (mSeq (mSet 2 (mOp oMod [.ex (mOp oInt [.ex (mOp oPlus [.ex (mOp oPlus [.ex (mOp oMul [.nm 2, .ex (mC (.int 16807))]), .ex (mOp oMod [.ex (mOp oInt [.nm 5]), .ex (mC (.int 2147483647))])]), .ex (mC (.int 13))])]), .ex (mC (.int 2147483647))]))
  (mSeq (mSet 3 (mOp oMod [.ex (mOp oInt [.ex (mOp oPlus [.ex (mOp oPlus [.ex (mOp oMul [.nm 3, .ex (mC (.int 40692))]), .ex (mOp oMod [.ex (mOp oInt [.nm 5]), .ex (mC (.int 2147483399))])]), .ex (mC (.int 5))])]), .ex (mC (.int 2147483399))]))
  (mIf (mB (mOp oGe [.ex (mOp oAbs [.nm 5]), .ex (mOp oPow [.ex (mC (.int 10)), .ex (mC (.int 18))])])) (mSet 1 (mOp oPlus [.nm 1, .ex (mOp oAbs [.nm 5])])) (mPass))))))
  (mRet (mAll oLst [.ex (mMv 1), .ex (mMv 2), .ex (mMv 3)])))))
def D__law_open : List O → FR := fnD [0] 6 m__law_open
theorem sc__law_open : FnScope ["_law_script", "_law_rest", "_law_one", "_law_two", "_law_cell", "_law_value"] ["_law_script"] (defScope s__law_open) := ⟨rfl, rfl, rfl, by decide +kernel, rfl, by decide +kernel, by decide +kernel⟩
theorem ok__law_open {P : Program} {w : World} {K : PySem.W.Frag} {mg : Str → Option Value} {base : Heap} {ad : Nat → Addr} {fdn : Nat → FuncData} (T : Txt K mg ad fdn) : FnOk P w K mg base (L2N.CX P w) 1 (ad 29) (fdn 29) ["_law_script"] (FP K mg 1 D__law_open) := by
  refine ok_def [0] T.F__law_open sc__law_open fun cdv A outer s H E hr => ?_
  have nd := sc__law_open.nd
  have tk := L2N.takes_of (X := cxOf (L2N.CX P w) P w K mg base ["_law_script", "_law_rest", "_law_one", "_law_two", "_law_cell", "_law_value"] "_law_open" (defScope s__law_open) (ad 29) cdv A outer s H E) rfl rfl rfl rfl
  have po := passes_of (X := cxOf (L2N.CX P w) P w K mg base ["_law_script", "_law_rest", "_law_one", "_law_two", "_law_cell", "_law_value"] "_law_open" (defScope s__law_open) (ad 29) cdv A outer s H E) rfl
  exact (dss_cons (ds_set (i := 1) nd de_int)
      (dss_cons (ds_set (i := 2) nd de_int)
      (dss_cons (ds_set (i := 3) nd de_int)
      (dss_cons (ds_for po rfl (di_seq (de_n 0)) (dg_n (i := 4) nd) (dss_cons (ds_set (i := 5) nd (de_callTy call_int1 s_int T.b_int (da_cons (dk_nm 4) da_nil)))
      (dss_cons (ds_set (i := 2) nd (de_bin op_modN s_mod (dk_ex (de_callTy call_int1 s_int T.b_int (da_cons (dk_ex (de_bin op_plus s_plus (dk_ex (de_bin op_plus s_plus (dk_ex (de_bin op_mulA s_mul (dk_nm 2) (dk_ex de_int))) (dk_ex (de_bin op_modN s_mod (dk_ex (de_callTy call_int1 s_int T.b_int (da_cons (dk_nm 5) da_nil))) (dk_ex de_int))))) (dk_ex de_int))) da_nil))) (dk_ex de_int)))
      (dss_cons (ds_set (i := 3) nd (de_bin op_modN s_mod (dk_ex (de_callTy call_int1 s_int T.b_int (da_cons (dk_ex (de_bin op_plus s_plus (dk_ex (de_bin op_plus s_plus (dk_ex (de_bin op_mulA s_mul (dk_nm 3) (dk_ex de_int))) (dk_ex (de_bin op_modN s_mod (dk_ex (de_callTy call_int1 s_int T.b_int (da_cons (dk_nm 5) da_nil))) (dk_ex de_int))))) (dk_ex de_int))) da_nil))) (dk_ex de_int)))
      (dss_one (ds_if (dt_cmp op_ge s_ge (dk_ex (de_callB call_abs s_abs T.b_abs (da_cons (dk_nm 5) da_nil))) (dk_ex (de_bin op_pow s_pow (dk_ex de_int) (dk_ex de_int)))) (dss_one (ds_set (i := 1) nd (de_bin op_plus s_plus (dk_nm 1) (dk_ex (de_callB call_abs s_abs T.b_abs (da_cons (dk_nm 5) da_nil)))))) dss_nil))))))
      (dss_one (ds_ret (de_lst (da_cons (dk_ex (de_mv 1)) (da_cons (dk_ex (de_mv 2)) (da_cons (dk_ex (de_mv 3)) da_nil))))))))))
/-! _law_take -/
def m__law_take : MS :=
  mSeq (mIf (mB (mOp oGt [.ex (mOp oIx [.nm 0, .ex (mC (.int 0))]), .ex (mC (.int 0))])) (mSeq (mSet 2 (mOp oMod [.ex (mOp oInt [.ex (mOp oIx [.nm 0, .ex (mC (.int 0))])]), .nm 1]))
  (mSeq (mPut 0 (mOp oDiv [.ex (mOp oInt [.ex (mOp oIx [.nm 0, .ex (mC (.int 0))])]), .nm 1]) (.ex (mC (.int 0))))
  (mRet (mMv 2)))) (mPass))
  (mSeq (mPut 0 (mOp oMod [.ex (mOp oInt [.ex (mOp oPlus [.ex (mOp oMul [.ex (mOp oIx [.nm 0, .ex (mC (.int 1))]), .ex (mC (.int 48271))]), .ex (mC (.int 30323))])]), .ex (mC (.int 2147483647))]) (.ex (mC (.int 1))))
  (mSeq (mPut 0 (mOp oMod [.ex (mOp oInt [.ex (mOp oPlus [.ex (mOp oPlus [.ex (mOp oMul [.ex (mOp oIx [.nm 0, .ex (mC (.int 2))]), .ex (mC (.int 39373))]), .ex (mOp oIx [.nm 0, .ex (mC (.int 1))])]), .ex (mC (.int 1409))])]), .ex (mC (.int 2147483399))]) (.ex (mC (.int 2))))
  (mRet (mOp oMod [.ex (mOp oInt [.ex (mOp oPlus [.ex (mOp oDiv [.ex (mOp oIx [.nm 0, .ex (mC (.int 2))]), .ex (mC (.int 512))]), .ex (mOp oDiv [.ex (mOp oIx [.nm 0, .ex (mC (.int 1))]), .ex (mC (.int 8192))])])]), .nm 1]))))
def D__law_take : List O → FR := fnD [0, 1] 3 m__law_take
theorem sc__law_take : FnScope ["_law_pool", "_law_many", "_law_got"] ["_law_pool", "_law_many"] (defScope s__law_take) := ⟨rfl, rfl, rfl, by decide +kernel, rfl, by decide +kernel, by decide +kernel⟩
theorem ok__law_take {P : Program} {w : World} {K : PySem.W.Frag} {mg : Str → Option Value} {base : Heap} {ad : Nat → Addr} {fdn : Nat → FuncData} (T : Txt K mg ad fdn) : FnOk P w K mg base (L2N.CX P w) 1 (ad 30) (fdn 30) ["_law_pool", "_law_many"] (FP K mg 2 D__law_take) := by
  refine ok_def [0, 1] T.F__law_take sc__law_take fun cdv A outer s H E hr => ?_
  have nd := sc__law_take.nd
  have tk := L2N.takes_of (X := cxOf (L2N.CX P w) P w K mg base ["_law_pool", "_law_many", "_law_got"] "_law_take" (defScope s__law_take) (ad 30) cdv A outer s H E) rfl rfl rfl rfl
  have po := passes_of (X := cxOf (L2N.CX P w) P w K mg base ["_law_pool", "_law_many", "_law_got"] "_law_take" (defScope s__law_take) (ad 30) cdv A outer s H E) rfl
  exact (dss_cons (ds_if (dt_cmp op_gt s_gt (dk_ex (de_ix ix_lt s_ix (dk_nm 0) (dk_ex de_int))) (dk_ex de_int)) (dss_cons (ds_set (i := 2) nd (de_bin op_modN s_mod (dk_ex (de_callTy call_int1 s_int T.b_int (da_cons (dk_ex (de_ix ix_lt s_ix (dk_nm 0) (dk_ex de_int))) da_nil))) (dk_nm 1)))
      (dss_cons (ds_put (i := 0) (de_bin op_fdivW s_div (dk_ex (de_callTy call_int1 s_int T.b_int (da_cons (dk_ex (de_ix ix_lt s_ix (dk_nm 0) (dk_ex de_int))) da_nil))) (dk_nm 1)) (dk_ex de_int))
      (dss_one (ds_ret (de_mv 2))))) dss_nil)
      (dss_cons (ds_put (i := 0) (de_bin op_modN s_mod (dk_ex (de_callTy call_int1 s_int T.b_int (da_cons (dk_ex (de_bin op_plus s_plus (dk_ex (de_bin op_mulA s_mul (dk_ex (de_ix ix_lt s_ix (dk_nm 0) (dk_ex de_int))) (dk_ex de_int))) (dk_ex de_int))) da_nil))) (dk_ex de_int)) (dk_ex de_int))
      (dss_cons (ds_put (i := 0) (de_bin op_modN s_mod (dk_ex (de_callTy call_int1 s_int T.b_int (da_cons (dk_ex (de_bin op_plus s_plus (dk_ex (de_bin op_plus s_plus (dk_ex (de_bin op_mulA s_mul (dk_ex (de_ix ix_lt s_ix (dk_nm 0) (dk_ex de_int))) (dk_ex de_int))) (dk_ex (de_ix ix_lt s_ix (dk_nm 0) (dk_ex de_int))))) (dk_ex de_int))) da_nil))) (dk_ex de_int)) (dk_ex de_int))
      (dss_one (ds_ret (de_bin op_modN s_mod (dk_ex (de_callTy call_int1 s_int T.b_int (da_cons (dk_ex (de_bin op_plus s_plus (dk_ex (de_bin op_fdivW s_div (dk_ex (de_ix ix_lt s_ix (dk_nm 0) (dk_ex de_int))) (dk_ex de_int))) (dk_ex (de_bin op_fdivW s_div (dk_ex (de_ix ix_lt s_ix (dk_nm 0) (dk_ex de_int))) (dk_ex de_int))))) da_nil))) (dk_nm 1)))))))
/-! _law_number -/
def m__law_number : MS :=
  mSeq (mSet 2 (mC (.int 0)))
  (mSeq (mFor (mRg [.ex (mC (.int 12))]) (gN 3) (mSet 2 (mOp oPlus [.ex (mOp oMul [.nm 2, .ex (mC (.int 100000))]), .ex (mCall D__law_take [.nm 0, .ex (mC (.int 100000))])])))
  (mRet (mOp oMod [.ex (mOp oInt [.nm 2]), .nm 1])))
def D__law_number : List O → FR := fnD [0, 1] 4 m__law_number
theorem sc__law_number : FnScope ["_law_pool", "_law_top", "_law_value", "_law_spin"] ["_law_pool", "_law_top"] (defScope s__law_number) := ⟨rfl, rfl, rfl, by decide +kernel, rfl, by decide +kernel, by decide +kernel⟩
theorem ok__law_number {P : Program} {w : World} {K : PySem.W.Frag} {mg : Str → Option Value} {base : Heap} {ad : Nat → Addr} {fdn : Nat → FuncData} (T : Txt K mg ad fdn) : FnOk P w K mg base (L2N.CX P w) 2 (ad 31) (fdn 31) ["_law_pool", "_law_top"] (FP K mg 2 D__law_number) := by
  refine ok_def [0, 1] T.F__law_number sc__law_number fun cdv A outer s H E hr => ?_
  have nd := sc__law_number.nd
  have tk := L2N.takes_of (X := cxOf (L2N.CX P w) P w K mg base ["_law_pool", "_law_top", "_law_value", "_law_spin"] "_law_number" (defScope s__law_number) (ad 31) cdv A outer s H E) rfl rfl rfl rfl
  have po := passes_of (X := cxOf (L2N.CX P w) P w K mg base ["_law_pool", "_law_top", "_law_value", "_law_spin"] "_law_number" (defScope s__law_number) (ad 31) cdv A outer s H E) rfl
  exact (dss_cons (ds_set (i := 2) nd de_int)
      (dss_cons (ds_for po rfl (di_range1 T.b_range (da_cons (dk_ex de_int) da_nil)) (dg_n (i := 3) nd) (dss_one (ds_set (i := 2) nd (de_bin op_plus s_plus (dk_ex (de_bin op_mulA s_mul (dk_nm 2) (dk_ex de_int))) (dk_ex (de_call (ok__law_take T) (hr.mono (by decide)) T.m__law_take T.F__law_take.kp T.b__law_take tk (da_cons (dk_nm 0) (da_cons (dk_ex de_int) da_nil))))))))
      (dss_one (ds_ret (de_bin op_modN s_mod (dk_ex (de_callTy call_int1 s_int T.b_int (da_cons (dk_nm 2) da_nil))) (dk_nm 1))))))
/-! _law_same -/
def m__law_same (self : List O → FR) : MS :=
  mSeq (mIf (mB (mOp (oIsN false) [.nm 1, .ex (mC .non)])) (mRet (mOp (oIsN false) [.nm 0, .ex (mC .non)])) (mPass))
  (mSeq (mIf (mB (mOp (oIsi "bool") [.nm 1])) (mRet (mAnd (mOp (oIsi "bool") [.nm 0]) (mOp (oEq false) [.nm 0, .nm 1]))) (mPass))
  (mSeq (mIf (mB (mOp (oIsi "int") [.nm 1])) (mRet (mAnd (mOp (oIsi "int") [.nm 0]) (mAnd (mNot (mOp (oIsi "bool") [.nm 0])) (mOp (oEq false) [.nm 0, .nm 1])))) (mPass))
  (mSeq (mIf (mB (mOp (oIsi "str") [.nm 1])) (mRet (mAnd (mOp (oIsi "str") [.nm 0]) (mOp (oEq false) [.nm 0, .nm 1]))) (mPass))
  (mSeq (mIf (mTNot (mTOr (mTAnd (mB (mOp (oIsi "tuple") [.nm 1])) (mB (mOp (oIsi "tuple") [.nm 0]))) (mTAnd (mB (mOp (oIsi "list") [.nm 1])) (mB (mOp (oIsi "list") [.nm 0]))))) (mRet (mC (.bl false))) (mPass))
  (mRet (mAnd (mOp (oEq false) [.ex (mOp oLen [.nm 0]), .ex (mOp oLen [.nm 1])]) (mOp oAll [.ex (mComp (mRg [.ex (mOp oLen [.nm 1])]) [2] (gN 2) (mYes) (mCall self [.ex (mOp oIx [.nm 0, .nm 2]), .ex (mOp oIx [.nm 1, .nm 2])]))])))))))
def D__law_same : Nat → List O → FR
  | 0 => fun _ => .fail
  | n + 1 => fnD [0, 1] 3 (m__law_same (D__law_same n))
theorem sc__law_same : FnScope ["_law_got", "_law_due", "_law_k"] ["_law_got", "_law_due"] (defScope s__law_same) := ⟨rfl, rfl, rfl, by decide +kernel, rfl, by decide +kernel, by decide +kernel⟩
theorem ok__law_same {P : Program} {w : World} {K : PySem.W.Frag} {mg : Str → Option Value} {base : Heap} {ad : Nat → Addr} {fdn : Nat → FuncData} (T : Txt K mg ad fdn) : ∀ n : Nat, FnOk P w K mg base (L2N.CX P w) (1 + n) (ad 32) (fdn 32) ["_law_got", "_law_due"] (FP K mg 2 (D__law_same n))
  | 0 => fnok_fail
  | n + 1 => by
    have ih := ok__law_same (P := P) (w := w) (base := base) T n
    refine ok_def [0, 1] T.F__law_same sc__law_same fun cdv A outer s H E hr => ?_
    have nd := sc__law_same.nd
    have tk := L2N.takes_of (X := cxOf (L2N.CX P w) P w K mg base ["_law_got", "_law_due", "_law_k"] "_law_same" (defScope s__law_same) (ad 32) cdv A outer s H E) rfl rfl rfl rfl
    have po := passes_of (X := cxOf (L2N.CX P w) P w K mg base ["_law_got", "_law_due", "_law_k"] "_law_same" (defScope s__law_same) (ad 32) cdv A outer s H E) rfl
    exact (dss_cons (ds_if (dt_cmp op_isN s_isN (dk_nm 1) (dk_ex de_non)) (dss_one (ds_ret (de_cmp op_isN s_isN (dk_nm 0) (dk_ex de_non)))) dss_nil)
      (dss_cons (ds_if (dt_val (de_isi (T := "bool") T.b_isinstance T.b_bool (dk_nm 1))) (dss_one (ds_ret (de_and (de_isi (T := "bool") T.b_isinstance T.b_bool (dk_nm 0)) (de_one (de_cmp (op_eqD hr.units) s_eq (dk_nm 0) (dk_nm 1)))))) dss_nil)
      (dss_cons (ds_if (dt_val (de_isi (T := "int") T.b_isinstance T.b_int (dk_nm 1))) (dss_one (ds_ret (de_and (de_isi (T := "int") T.b_isinstance T.b_int (dk_nm 0)) (de_and (de_not (de_isi (T := "bool") T.b_isinstance T.b_bool (dk_nm 0))) (de_one (de_cmp (op_eqD hr.units) s_eq (dk_nm 0) (dk_nm 1))))))) dss_nil)
      (dss_cons (ds_if (dt_val (de_isi (T := "str") T.b_isinstance T.b_str (dk_nm 1))) (dss_one (ds_ret (de_and (de_isi (T := "str") T.b_isinstance T.b_str (dk_nm 0)) (de_one (de_cmp (op_eqD hr.units) s_eq (dk_nm 0) (dk_nm 1)))))) dss_nil)
      (dss_cons (ds_if (dt_not (dt_w (dw_or (dt_w (dw_and (dt_val (de_isi (T := "tuple") T.b_isinstance T.b_tuple (dk_nm 1))) (dw_and1 (dt_val (de_isi (T := "tuple") T.b_isinstance T.b_tuple (dk_nm 0)))))) (dw_or1 (dt_w (dw_and (dt_val (de_isi (T := "list") T.b_isinstance T.b_list (dk_nm 1))) (dw_and1 (dt_val (de_isi (T := "list") T.b_isinstance T.b_list (dk_nm 0)))))))))) (dss_one (ds_ret de_bl)) dss_nil)
      (dss_one (ds_ret (de_and (de_cmp (op_eqD hr.units) s_eq (dk_ex (de_callB call_len_seq s_len T.b_len (da_cons (dk_nm 0) da_nil))) (dk_ex (de_callB call_len_seq s_len T.b_len (da_cons (dk_nm 1) da_nil)))) (de_one (de_callB (cr_all rfl) s_all T.b_all (da_cons (dk_ex (de_comp (own := [("_law_k", 2)]) rfl nd (blkOk_by rfl) (by decide) (di_range1 T.b_range (da_cons (dk_ex (de_callB call_len_seq s_len T.b_len (da_cons (dk_nm 1) da_nil))) da_nil)) (fun _ => pg_name (i := 2) nd rfl (by first | exact Or.inl rfl | exact Or.inr rfl)) (gsnd_n (i := 2) (by decide)) (gw_n (i := 2) (by decide)) (fun _ => dts_nil) (fun _ => (de_call ih (hr.mono (Nat.le_refl _)) T.m__law_same T.F__law_same.kp T.b__law_same takes0N (da_cons (dk_ex (de_ix ix_lt s_ix (dk_nm 0) (dk_nm 2))) (da_cons (dk_ex (de_ix ix_lt s_ix (dk_nm 1) (dk_nm 2))) da_nil)))))) da_nil)))))))))))
/-! _law_product -/
def m__law_product : MS :=
  mSeq (mSet 1 (mC (.int 1)))
  (mSeq (mFor (mIt itS (mN 0)) (gN 2) (mSet 1 (mOp oMul [.nm 1, .nm 2])))
  (mRet (mMv 1)))
def D__law_product : List O → FR := fnD [0] 3 m__law_product
theorem sc__law_product : FnScope ["_law_sizes", "_law_whole_here", "_law_size"] ["_law_sizes"] (defScope s__law_product) := ⟨rfl, rfl, rfl, by decide +kernel, rfl, by decide +kernel, by decide +kernel⟩
theorem ok__law_product {P : Program} {w : World} {K : PySem.W.Frag} {mg : Str → Option Value} {base : Heap} {ad : Nat → Addr} {fdn : Nat → FuncData} (T : Txt K mg ad fdn) : FnOk P w K mg base (L2N.CX P w) 1 (ad 33) (fdn 33) ["_law_sizes"] (FP K mg 1 D__law_product) := by
  refine ok_def [0] T.F__law_product sc__law_product fun cdv A outer s H E hr => ?_
  have nd := sc__law_product.nd
  have tk := L2N.takes_of (X := cxOf (L2N.CX P w) P w K mg base ["_law_sizes", "_law_whole_here", "_law_size"] "_law_product" (defScope s__law_product) (ad 33) cdv A outer s H E) rfl rfl rfl rfl
  have po := passes_of (X := cxOf (L2N.CX P w) P w K mg base ["_law_sizes", "_law_whole_here", "_law_size"] "_law_product" (defScope s__law_product) (ad 33) cdv A outer s H E) rfl
  exact (dss_cons (ds_set (i := 1) nd de_int)
      (dss_cons (ds_for po rfl (di_seq (de_n 0)) (dg_n (i := 2) nd) (dss_one (ds_set (i := 1) nd (de_bin op_mulA s_mul (dk_nm 1) (dk_nm 2)))))
      (dss_one (ds_ret (de_mv 1)))))
/-! _law_halves -/
def m__law_halves : MS :=
  mSeq (mSet 1 (mAll oTup []))
  (mSeq (mFor (mRg [.ex (mC (.int 1)), .ex (mOp oLen [.nm 0])]) (gN 2) (mSeq (mSet 3 (mCall D__law_product [.ex (mSlice (.nm 0) none (some (mN 2)))]))
  (mSeq (mSet 4 (mCall D__law_product [.ex (mSlice (.nm 0) (some (mN 2)) none)]))
  (mIf (mTOr (mB (mOp (oEq false) [.nm 1, .ex (mAll oTup [])])) (mB (mOp oLt [.ex (mOp oPlus [.nm 3, .nm 4]), .ex (mOp oPlus [.ex (mOp oIx [.nm 1, .ex (mC (.int 0))]), .ex (mOp oIx [.nm 1, .ex (mC (.int 1))])])]))) (mSet 1 (mAll oTup [.ex (mN 3), .ex (mN 4), .ex (mOp oIx [.nm 0, .ex (mOp oSub [.nm 2, .ex (mC (.int 1))])]), .ex (mOp oIx [.nm 0, .nm 2])])) (mPass)))))
  (mRet (mMv 1)))
def D__law_halves : List O → FR := fnD [0] 5 m__law_halves
theorem sc__law_halves : FnScope ["_law_sizes", "_law_best", "_law_h", "_law_ahead", "_law_behind"] ["_law_sizes"] (defScope s__law_halves) := ⟨rfl, rfl, rfl, by decide +kernel, rfl, by decide +kernel, by decide +kernel⟩
theorem ok__law_halves {P : Program} {w : World} {K : PySem.W.Frag} {mg : Str → Option Value} {base : Heap} {ad : Nat → Addr} {fdn : Nat → FuncData} (T : Txt K mg ad fdn) : FnOk P w K mg base (L2N.CX P w) 2 (ad 34) (fdn 34) ["_law_sizes"] (FP K mg 1 D__law_halves) := by
  refine ok_def [0] T.F__law_halves sc__law_halves fun cdv A outer s H E hr => ?_
  have nd := sc__law_halves.nd
  have tk := L2N.takes_of (X := cxOf (L2N.CX P w) P w K mg base ["_law_sizes", "_law_best", "_law_h", "_law_ahead", "_law_behind"] "_law_halves" (defScope s__law_halves) (ad 34) cdv A outer s H E) rfl rfl rfl rfl
  have po := passes_of (X := cxOf (L2N.CX P w) P w K mg base ["_law_sizes", "_law_best", "_law_h", "_law_ahead", "_law_behind"] "_law_halves" (defScope s__law_halves) (ad 34) cdv A outer s H E) rfl
  exact (dss_cons (ds_set (i := 1) nd (de_tup da_nil))
      (dss_cons (ds_for po rfl (di_range2 T.b_range (da_cons (dk_ex de_int) (da_cons (dk_ex (de_callB call_len_seq s_len T.b_len (da_cons (dk_nm 0) da_nil))) da_nil))) (dg_n (i := 2) nd) (dss_cons (ds_set (i := 3) nd (de_call (ok__law_product T) (hr.mono (by decide)) T.m__law_product T.F__law_product.kp T.b__law_product tk (da_cons (dk_ex (de_slice (dk_nm 0) dp_none (dp_some (de_n 2)))) da_nil)))
      (dss_cons (ds_set (i := 4) nd (de_call (ok__law_product T) (hr.mono (by decide)) T.m__law_product T.F__law_product.kp T.b__law_product tk (da_cons (dk_ex (de_slice (dk_nm 0) (dp_some (de_n 2)) dp_none)) da_nil)))
      (dss_one (ds_if (dt_w (dw_or (dt_cmp (op_eqD hr.units) s_eq (dk_nm 1) (dk_ex (de_tup da_nil))) (dw_or1 (dt_cmp op_lt s_lt (dk_ex (de_bin op_plus s_plus (dk_nm 3) (dk_nm 4))) (dk_ex (de_bin op_plus s_plus (dk_ex (de_ix ix_lt s_ix (dk_nm 1) (dk_ex de_int))) (dk_ex (de_ix ix_lt s_ix (dk_nm 1) (dk_ex de_int))))))))) (dss_one (ds_set (i := 1) nd (de_tup (da_cons (dk_ex (de_n 3)) (da_cons (dk_ex (de_n 4)) (da_cons (dk_ex (de_ix ix_lt s_ix (dk_nm 0) (dk_ex (de_bin op_sub s_sub (dk_nm 2) (dk_ex de_int))))) (da_cons (dk_ex (de_ix ix_lt s_ix (dk_nm 0) (dk_nm 2))) da_nil))))))) dss_nil)))))
      (dss_one (ds_ret (de_mv 1)))))
/-! _law_small_sizes -/
def m__law_small_sizes : MS :=
  mSeq (mSet 1 (mAll oTup [.ex (mOp oPlus [.ex (mC (.int 2)), .ex (mCall D__law_take [.nm 0, .ex (mC (.int 4))])]), .ex (mOp oPlus [.ex (mC (.int 2)), .ex (mCall D__law_take [.nm 0, .ex (mC (.int 4))])])]))
  (mSeq (mFor (mRg [.ex (mCall D__law_take [.nm 0, .ex (mC (.int 5))])]) (gN 2) (mSeq (mSet 3 (mOp oPlus [.nm 1, .ex (mAll oTup [.ex (mOp oPlus [.ex (mC (.int 2)), .ex (mCall D__law_take [.nm 0, .ex (mC (.int 4))])])])]))
  (mSeq (mIf (mB (mOp (oEq false) [.ex (mCall D__law_take [.nm 0, .ex (mC (.int 2))]), .ex (mC (.int 0))])) (mSet 3 (mOp oPlus [.ex (mSlice (.nm 3) (some (mOp oNeg [.ex (mC (.int 1))])) none), .ex (mSlice (.nm 3) none (some (mOp oNeg [.ex (mC (.int 1))])))])) (mPass))
  (mSeq (mSet 4 (mCall D__law_halves [.nm 3]))
  (mIf (mB (mOp oLe [.ex (mOp oSub [.ex (mOp oPlus [.ex (mOp oIx [.nm 4, .ex (mC (.int 0))]), .ex (mOp oIx [.nm 4, .ex (mC (.int 1))])]), .ex (mC (.int 1))]), .ex (mC (.int 60))])) (mSet 1 (mN 3)) (mPass))))))
  (mRet (mMv 1)))
def D__law_small_sizes : List O → FR := fnD [0] 5 m__law_small_sizes
theorem sc__law_small_sizes : FnScope ["_law_pool", "_law_sizes", "_law_spin", "_law_longer", "_law_halves_here"] ["_law_pool"] (defScope s__law_small_sizes) := ⟨rfl, rfl, rfl, by decide +kernel, rfl, by decide +kernel, by decide +kernel⟩
theorem ok__law_small_sizes {P : Program} {w : World} {K : PySem.W.Frag} {mg : Str → Option Value} {base : Heap} {ad : Nat → Addr} {fdn : Nat → FuncData} (T : Txt K mg ad fdn) : FnOk P w K mg base (L2N.CX P w) 3 (ad 35) (fdn 35) ["_law_pool"] (FP K mg 1 D__law_small_sizes) := by
  refine ok_def [0] T.F__law_small_sizes sc__law_small_sizes fun cdv A outer s H E hr => ?_
  have nd := sc__law_small_sizes.nd
  have tk := L2N.takes_of (X := cxOf (L2N.CX P w) P w K mg base ["_law_pool", "_law_sizes", "_law_spin", "_law_longer", "_law_halves_here"] "_law_small_sizes" (defScope s__law_small_sizes) (ad 35) cdv A outer s H E) rfl rfl rfl rfl
  have po := passes_of (X := cxOf (L2N.CX P w) P w K mg base ["_law_pool", "_law_sizes", "_law_spin", "_law_longer", "_law_halves_here"] "_law_small_sizes" (defScope s__law_small_sizes) (ad 35) cdv A outer s H E) rfl
  exact (dss_cons (ds_set (i := 1) nd (de_tup (da_cons (dk_ex (de_bin op_plus s_plus (dk_ex de_int) (dk_ex (de_call (ok__law_take T) (hr.mono (by decide)) T.m__law_take T.F__law_take.kp T.b__law_take tk (da_cons (dk_nm 0) (da_cons (dk_ex de_int) da_nil)))))) (da_cons (dk_ex (de_bin op_plus s_plus (dk_ex de_int) (dk_ex (de_call (ok__law_take T) (hr.mono (by decide)) T.m__law_take T.F__law_take.kp T.b__law_take tk (da_cons (dk_nm 0) (da_cons (dk_ex de_int) da_nil)))))) da_nil))))
      (dss_cons (ds_for po rfl (di_range1 T.b_range (da_cons (dk_ex (de_call (ok__law_take T) (hr.mono (by decide)) T.m__law_take T.F__law_take.kp T.b__law_take tk (da_cons (dk_nm 0) (da_cons (dk_ex de_int) da_nil)))) da_nil)) (dg_n (i := 2) nd) (dss_cons (ds_set (i := 3) nd (de_bin op_plus s_plus (dk_nm 1) (dk_ex (de_tup (da_cons (dk_ex (de_bin op_plus s_plus (dk_ex de_int) (dk_ex (de_call (ok__law_take T) (hr.mono (by decide)) T.m__law_take T.F__law_take.kp T.b__law_take tk (da_cons (dk_nm 0) (da_cons (dk_ex de_int) da_nil)))))) da_nil)))))
      (dss_cons (ds_if (dt_cmp (op_eqD hr.units) s_eq (dk_ex (de_call (ok__law_take T) (hr.mono (by decide)) T.m__law_take T.F__law_take.kp T.b__law_take tk (da_cons (dk_nm 0) (da_cons (dk_ex de_int) da_nil)))) (dk_ex de_int)) (dss_one (ds_set (i := 3) nd (de_bin op_plus s_plus (dk_ex (de_slice (dk_nm 3) (dp_some (de_un un_neg s_neg (dk_ex de_int))) dp_none)) (dk_ex (de_slice (dk_nm 3) dp_none (dp_some (de_un un_neg s_neg (dk_ex de_int)))))))) dss_nil)
      (dss_cons (ds_set (i := 4) nd (de_call (ok__law_halves T) (hr.mono (by decide)) T.m__law_halves T.F__law_halves.kp T.b__law_halves tk (da_cons (dk_nm 3) da_nil)))
      (dss_one (ds_if (dt_cmp op_le s_le (dk_ex (de_bin op_sub s_sub (dk_ex (de_bin op_plus s_plus (dk_ex (de_ix ix_lt s_ix (dk_nm 4) (dk_ex de_int))) (dk_ex (de_ix ix_lt s_ix (dk_nm 4) (dk_ex de_int))))) (dk_ex de_int))) (dk_ex de_int)) (dss_one (ds_set (i := 1) nd (de_n 3))) dss_nil))))))
      (dss_one (ds_ret (de_mv 1)))))
/-! _law_wide_sizes -/
def m__law_wide_sizes : MS :=
  mSeq (mSet 1 (mOp oPow [.ex (mC (.int 10)), .ex (mC (.int 30))]))
  (mSeq (mIf (mB (mOp (oEq false) [.ex (mCall D__law_take [.nm 0, .ex (mC (.int 4))]), .ex (mC (.int 0))])) (mSet 1 (mOp oPow [.ex (mC (.int 10)), .ex (mC (.int 59))])) (mPass))
  (mSeq (mSet 2 (mOp oPlus [.ex (mC (.int 4)), .ex (mCall D__law_take [.nm 0, .ex (mC (.int 67))])]))
  (mSeq (mSet 3 (mCall D__law_take [.nm 0, .ex (mC (.int 8))]))
  (mSeq (mSet 4 (mAll oLst []))
  (mSeq (mSet 5 (mC (.int 1)))
  (mSeq (mFor (mRg [.nm 2]) (gN 6) (mSeq (mSet 7 (mOp oIx [.ex (mAll oLst [.ex (mC (.int 1)), .ex (mC (.int 1)), .ex (mOp oPow [.ex (mC (.int 10)), .ex (mC (.int 9))]), .ex (mC (.int 11)), .ex (mC (.int 11)), .ex (mC (.int 11)), .ex (mC (.int 11)), .ex (mC (.int 11))]), .nm 3]))
  (mSeq (mIf (mTAnd (mB (mOp (oEq false) [.nm 3, .ex (mC (.int 1))])) (mB (mOp (oEq false) [.nm 6, .ex (mOp oDiv [.nm 2, .ex (mC (.int 3))])]))) (mSet 7 (mC (.int 11))) (mPass))
  (mSeq (mSet 8 (mOp oPlus [.ex (mC (.int 2)), .ex (mCall D__law_take [.nm 0, .nm 7])]))
  (mIf (mB (mOp oLe [.ex (mOp oMul [.nm 5, .nm 8]), .nm 1])) (mSeq (mExpr (mMut 4 fApp [.ex (mN 8)]))
  (mSet 5 (mOp oMul [.nm 5, .nm 8]))) (mPass))))))
  (mRet (mOp (op1 toTup) [.nm 4]))))))))
def D__law_wide_sizes : List O → FR := fnD [0] 9 m__law_wide_sizes
theorem sc__law_wide_sizes : FnScope ["_law_pool", "_law_top", "_law_many", "_law_manner", "_law_sizes", "_law_whole_here", "_law_k", "_law_spread", "_law_size"] ["_law_pool"] (defScope s__law_wide_sizes) := ⟨rfl, rfl, rfl, by decide +kernel, rfl, by decide +kernel, by decide +kernel⟩
theorem ok__law_wide_sizes {P : Program} {w : World} {K : PySem.W.Frag} {mg : Str → Option Value} {base : Heap} {ad : Nat → Addr} {fdn : Nat → FuncData} (T : Txt K mg ad fdn) : FnOk P w K mg base (L2N.CX P w) 2 (ad 36) (fdn 36) ["_law_pool"] (FP K mg 1 D__law_wide_sizes) := by
  refine ok_def [0] T.F__law_wide_sizes sc__law_wide_sizes fun cdv A outer s H E hr => ?_
  have nd := sc__law_wide_sizes.nd
  have tk := L2N.takes_of (X := cxOf (L2N.CX P w) P w K mg base ["_law_pool", "_law_top", "_law_many", "_law_manner", "_law_sizes", "_law_whole_here", "_law_k", "_law_spread", "_law_size"] "_law_wide_sizes" (defScope s__law_wide_sizes) (ad 36) cdv A outer s H E) rfl rfl rfl rfl
  have po := passes_of (X := cxOf (L2N.CX P w) P w K mg base ["_law_pool", "_law_top", "_law_many", "_law_manner", "_law_sizes", "_law_whole_here", "_law_k", "_law_spread", "_law_size"] "_law_wide_sizes" (defScope s__law_wide_sizes) (ad 36) cdv A outer s H E) rfl
  exact (dss_cons (ds_set (i := 1) nd (de_bin op_pow s_pow (dk_ex de_int) (dk_ex de_int)))
      (dss_cons (ds_if (dt_cmp (op_eqD hr.units) s_eq (dk_ex (de_call (ok__law_take T) (hr.mono (by decide)) T.m__law_take T.F__law_take.kp T.b__law_take tk (da_cons (dk_nm 0) (da_cons (dk_ex de_int) da_nil)))) (dk_ex de_int)) (dss_one (ds_set (i := 1) nd (de_bin op_pow s_pow (dk_ex de_int) (dk_ex de_int)))) dss_nil)
      (dss_cons (ds_set (i := 2) nd (de_bin op_plus s_plus (dk_ex de_int) (dk_ex (de_call (ok__law_take T) (hr.mono (by decide)) T.m__law_take T.F__law_take.kp T.b__law_take tk (da_cons (dk_nm 0) (da_cons (dk_ex de_int) da_nil))))))
      (dss_cons (ds_set (i := 3) nd (de_call (ok__law_take T) (hr.mono (by decide)) T.m__law_take T.F__law_take.kp T.b__law_take tk (da_cons (dk_nm 0) (da_cons (dk_ex de_int) da_nil))))
      (dss_cons (ds_set (i := 4) nd (de_lst da_nil))
      (dss_cons (ds_set (i := 5) nd de_int)
      (dss_cons (ds_for po rfl (di_range1 T.b_range (da_cons (dk_nm 2) da_nil)) (dg_n (i := 6) nd) (dss_cons (ds_set (i := 7) nd (de_ix ix_lt s_ix (dk_ex (de_lst (da_cons (dk_ex de_int) (da_cons (dk_ex de_int) (da_cons (dk_ex (de_bin op_pow s_pow (dk_ex de_int) (dk_ex de_int))) (da_cons (dk_ex de_int) (da_cons (dk_ex de_int) (da_cons (dk_ex de_int) (da_cons (dk_ex de_int) (da_cons (dk_ex de_int) da_nil)))))))))) (dk_nm 3)))
      (dss_cons (ds_if (dt_w (dw_and (dt_cmp (op_eqD hr.units) s_eq (dk_nm 3) (dk_ex de_int)) (dw_and1 (dt_cmp (op_eqD hr.units) s_eq (dk_nm 6) (dk_ex (de_bin op_fdivW s_div (dk_nm 2) (dk_ex de_int))))))) (dss_one (ds_set (i := 7) nd de_int)) dss_nil)
      (dss_cons (ds_set (i := 8) nd (de_bin op_plus s_plus (dk_ex de_int) (dk_ex (de_call (ok__law_take T) (hr.mono (by decide)) T.m__law_take T.F__law_take.kp T.b__law_take tk (da_cons (dk_nm 0) (da_cons (dk_nm 7) da_nil))))))
      (dss_one (ds_if (dt_cmp op_le s_le (dk_ex (de_bin op_mulA s_mul (dk_nm 5) (dk_nm 8))) (dk_nm 1)) (dss_cons (ds_expr (de_mut (i := 4) PySem.F.plainAttrs_list PySem.F.slot_list_append PySem.F.type_list_append mt_append s_app (da_cons (dk_ex (de_n 8)) da_nil)))
      (dss_one (ds_set (i := 5) nd (de_bin op_mulA s_mul (dk_nm 5) (dk_nm 8))))) dss_nil))))))
      (dss_one (ds_ret (de_callTy call_tuple_of s_tuple T.b_tuple (da_cons (dk_nm 4) da_nil)))))))))))
/-! _law_moments -/
def m__law_moments : MS :=
  mSeq (mSet 1 (mOp oSub [.ex (mOp oIx [.nm 0, .ex (mC (.int 0))]), .ex (mC (.int 1))]))
  (mSeq (mSet 2 (mAll oLst [.ex (mC (.int 0))]))
  (mSeq (mFor (mRg [.ex (mC (.int 1)), .ex (mOp oIx [.nm 0, .ex (mC (.int 1))])]) (gN 3) (mExpr (mMut 2 fApp [.ex (mOp oPlus [.ex (mOp oIx [.nm 2, .ex (mOp oNeg [.ex (mC (.int 1))])]), .ex (mOp oIx [.nm 0, .ex (mC (.int 2))])])])))
  (mSeq (mSet 4 (mAll oLst []))
  (mSeq (mSet 5 (mN 1))
  (mSeq (mSet 6 (mC (.int 0)))
  (mSeq (mFor (mRg [.ex (mC (.int 1)), .ex (mOp oIx [.nm 0, .ex (mC (.int 1))])]) (gN 7) (mSeq (mIf (mB (mOp (oEq false) [.nm 6, .ex (mOp oIx [.nm 0, .ex (mC (.int 3))])])) (mSeq (mSet 5 (mOp oSub [.nm 5, .ex (mC (.int 1))]))
  (mSet 6 (mC (.int 0)))) (mPass))
  (mSeq (mExpr (mMut 4 fApp [.ex (mN 5)]))
  (mSet 6 (mOp oPlus [.nm 6, .ex (mC (.int 1))])))))
  (mSeq (mExpr (mMut 4 fApp [.ex (mC (.int 0))]))
  (mSeq (mSet 4 (mlistRev (mN 4)))
  (mRet (mComp (mRg [.ex (mOp oIx [.nm 0, .ex (mC (.int 1))])]) [8] (gN 8) (mYes) (mOp oMin2 [.ex (mOp oIx [.nm 2, .nm 8]), .ex (mOp oIx [.nm 4, .nm 8])])))))))))))
def D__law_moments : List O → FR := fnD [0] 9 m__law_moments
theorem sc__law_moments : FnScope ["_law_halves_here", "_law_most", "_law_front", "_law_spin", "_law_back", "_law_left_here", "_law_used", "_law_whirl", "_law_j"] ["_law_halves_here"] (defScope s__law_moments) := ⟨rfl, rfl, rfl, by decide +kernel, rfl, by decide +kernel, by decide +kernel⟩
theorem ok__law_moments {P : Program} {w : World} {K : PySem.W.Frag} {mg : Str → Option Value} {base : Heap} {ad : Nat → Addr} {fdn : Nat → FuncData} (T : Txt K mg ad fdn) : FnOk P w K mg base (L2N.CX P w) 1 (ad 37) (fdn 37) ["_law_halves_here"] (FP K mg 1 D__law_moments) := by
  refine ok_def [0] T.F__law_moments sc__law_moments fun cdv A outer s H E hr => ?_
  have nd := sc__law_moments.nd
  have tk := L2N.takes_of (X := cxOf (L2N.CX P w) P w K mg base ["_law_halves_here", "_law_most", "_law_front", "_law_spin", "_law_back", "_law_left_here", "_law_used", "_law_whirl", "_law_j"] "_law_moments" (defScope s__law_moments) (ad 37) cdv A outer s H E) rfl rfl rfl rfl
  have po := passes_of (X := cxOf (L2N.CX P w) P w K mg base ["_law_halves_here", "_law_most", "_law_front", "_law_spin", "_law_back", "_law_left_here", "_law_used", "_law_whirl", "_law_j"] "_law_moments" (defScope s__law_moments) (ad 37) cdv A outer s H E) rfl
  exact (dss_cons (ds_set (i := 1) nd (de_bin op_sub s_sub (dk_ex (de_ix ix_lt s_ix (dk_nm 0) (dk_ex de_int))) (dk_ex de_int)))
      (dss_cons (ds_set (i := 2) nd (de_lst (da_cons (dk_ex de_int) da_nil)))
      (dss_cons (ds_for po rfl (di_range2 T.b_range (da_cons (dk_ex de_int) (da_cons (dk_ex (de_ix ix_lt s_ix (dk_nm 0) (dk_ex de_int))) da_nil))) (dg_n (i := 3) nd) (dss_one (ds_expr (de_mut (i := 2) PySem.F.plainAttrs_list PySem.F.slot_list_append PySem.F.type_list_append mt_append s_app (da_cons (dk_ex (de_bin op_plus s_plus (dk_ex (de_ix ix_lt s_ix (dk_nm 2) (dk_ex (de_un un_neg s_neg (dk_ex de_int))))) (dk_ex (de_ix ix_lt s_ix (dk_nm 0) (dk_ex de_int))))) da_nil)))))
      (dss_cons (ds_set (i := 4) nd (de_lst da_nil))
      (dss_cons (ds_set (i := 5) nd (de_n 1))
      (dss_cons (ds_set (i := 6) nd de_int)
      (dss_cons (ds_for po rfl (di_range2 T.b_range (da_cons (dk_ex de_int) (da_cons (dk_ex (de_ix ix_lt s_ix (dk_nm 0) (dk_ex de_int))) da_nil))) (dg_n (i := 7) nd) (dss_cons (ds_if (dt_cmp (op_eqD hr.units) s_eq (dk_nm 6) (dk_ex (de_ix ix_lt s_ix (dk_nm 0) (dk_ex de_int)))) (dss_cons (ds_set (i := 5) nd (de_bin op_sub s_sub (dk_nm 5) (dk_ex de_int)))
      (dss_one (ds_set (i := 6) nd de_int))) dss_nil)
      (dss_cons (ds_expr (de_mut (i := 4) PySem.F.plainAttrs_list PySem.F.slot_list_append PySem.F.type_list_append mt_append s_app (da_cons (dk_ex (de_n 5)) da_nil)))
      (dss_one (ds_set (i := 6) nd (de_bin op_plus s_plus (dk_nm 6) (dk_ex de_int)))))))
      (dss_cons (ds_expr (de_mut (i := 4) PySem.F.plainAttrs_list PySem.F.slot_list_append PySem.F.type_list_append mt_append s_app (da_cons (dk_ex de_int) da_nil)))
      (dss_cons (ds_set (i := 4) nd (de_listRev T.b_list T.b_reversed (de_n 4)))
      (dss_one (ds_ret (de_comp (own := [("_law_j", 8)]) rfl nd (blkOk_by rfl) (by decide) (di_range1 T.b_range (da_cons (dk_ex (de_ix ix_lt s_ix (dk_nm 0) (dk_ex de_int))) da_nil)) (fun _ => pg_name (i := 8) nd rfl (by first | exact Or.inl rfl | exact Or.inr rfl)) (gsnd_n (i := 8) (by decide)) (gw_n (i := 8) (by decide)) (fun _ => dts_nil) (fun _ => (de_callB (call_min2 rfl) s_min2 T.b_min (da_cons (dk_ex (de_ix ix_lt s_ix (dk_nm 2) (dk_nm 8))) (da_cons (dk_ex (de_ix ix_lt s_ix (dk_nm 4) (dk_nm 8))) da_nil))))))))))))))))
/-! _law_walk -/
def m__law_walk : MS :=
  mSeq (mSet 2 (mAll oLst [.ex (mAll oTup [.ex (mC (.int 0)), .ex (mC (.int 0))])]))
  (mSeq (mSet 3 (mC (.int 0)))
  (mSeq (mFor (mRg [.ex (mOp oIx [.nm 0, .ex (mC (.int 0))])]) (gN 4) (mSeq (mIf (mB (mOp oGt [.nm 4, .ex (mC (.int 0))])) (mExpr (mMut 2 fApp [.ex (mAll oTup [.ex (mN 4), .ex (mN 3)])])) (mPass))
  (mFor (mRg [.ex (mOp oPlus [.nm 3, .ex (mC (.int 1))]), .ex (mOp oIx [.nm 0, .ex (mC (.int 1))])]) (gN 5) (mIf (mB (mOp (oEq false) [.ex (mOp oIx [.nm 1, .nm 5]), .nm 4])) (mSeq (mSet 3 (mN 5))
  (mExpr (mMut 2 fApp [.ex (mAll oTup [.ex (mN 4), .ex (mN 3)])]))) (mPass)))))
  (mRet (mMv 2))))
def D__law_walk : List O → FR := fnD [0, 1] 6 m__law_walk
theorem sc__law_walk : FnScope ["_law_halves_here", "_law_moments_here", "_law_walk_here", "_law_right_here", "_law_left_here", "_law_j"] ["_law_halves_here", "_law_moments_here"] (defScope s__law_walk) := ⟨rfl, rfl, rfl, by decide +kernel, rfl, by decide +kernel, by decide +kernel⟩
theorem ok__law_walk {P : Program} {w : World} {K : PySem.W.Frag} {mg : Str → Option Value} {base : Heap} {ad : Nat → Addr} {fdn : Nat → FuncData} (T : Txt K mg ad fdn) : FnOk P w K mg base (L2N.CX P w) 1 (ad 38) (fdn 38) ["_law_halves_here", "_law_moments_here"] (FP K mg 2 D__law_walk) := by
  refine ok_def [0, 1] T.F__law_walk sc__law_walk fun cdv A outer s H E hr => ?_
  have nd := sc__law_walk.nd
  have tk := L2N.takes_of (X := cxOf (L2N.CX P w) P w K mg base ["_law_halves_here", "_law_moments_here", "_law_walk_here", "_law_right_here", "_law_left_here", "_law_j"] "_law_walk" (defScope s__law_walk) (ad 38) cdv A outer s H E) rfl rfl rfl rfl
  have po := passes_of (X := cxOf (L2N.CX P w) P w K mg base ["_law_halves_here", "_law_moments_here", "_law_walk_here", "_law_right_here", "_law_left_here", "_law_j"] "_law_walk" (defScope s__law_walk) (ad 38) cdv A outer s H E) rfl
  exact (dss_cons (ds_set (i := 2) nd (de_lst (da_cons (dk_ex (de_tup (da_cons (dk_ex de_int) (da_cons (dk_ex de_int) da_nil)))) da_nil)))
      (dss_cons (ds_set (i := 3) nd de_int)
      (dss_cons (ds_for po rfl (di_range1 T.b_range (da_cons (dk_ex (de_ix ix_lt s_ix (dk_nm 0) (dk_ex de_int))) da_nil)) (dg_n (i := 4) nd) (dss_cons (ds_if (dt_cmp op_gt s_gt (dk_nm 4) (dk_ex de_int)) (dss_one (ds_expr (de_mut (i := 2) PySem.F.plainAttrs_list PySem.F.slot_list_append PySem.F.type_list_append mt_append s_app (da_cons (dk_ex (de_tup (da_cons (dk_ex (de_n 4)) (da_cons (dk_ex (de_n 3)) da_nil)))) da_nil)))) dss_nil)
      (dss_one (ds_for po rfl (di_range2 T.b_range (da_cons (dk_ex (de_bin op_plus s_plus (dk_nm 3) (dk_ex de_int))) (da_cons (dk_ex (de_ix ix_lt s_ix (dk_nm 0) (dk_ex de_int))) da_nil))) (dg_n (i := 5) nd) (dss_one (ds_if (dt_cmp (op_eqD hr.units) s_eq (dk_ex (de_ix ix_lt s_ix (dk_nm 1) (dk_nm 5))) (dk_nm 4)) (dss_cons (ds_set (i := 3) nd (de_n 5))
      (dss_one (ds_expr (de_mut (i := 2) PySem.F.plainAttrs_list PySem.F.slot_list_append PySem.F.type_list_append mt_append s_app (da_cons (dk_ex (de_tup (da_cons (dk_ex (de_n 4)) (da_cons (dk_ex (de_n 3)) da_nil)))) da_nil))))) dss_nil))))))
      (dss_one (ds_ret (de_mv 2))))))
/-! _law_small -/
def m__law_small : MS :=
  mSeq (mSet 1 (mCall D__law_halves [.nm 0]))
  (mSeq (mIf (mTNot (mB (mCall (D__law_same 4) [.ex (mCall D_halves_of [.nm 0]), .nm 1]))) (mRet (mC (.bl false))) (mPass))
  (mSeq (mSet 2 (mCall D__law_moments [.nm 1]))
  (mSeq (mSet 3 (mCall D__law_walk [.nm 1, .nm 2]))
  (mSeq (mIf (mB (mOp (oEq true) [.ex (mOp oLen [.nm 3]), .ex (mOp oSub [.ex (mOp oPlus [.ex (mOp oIx [.nm 1, .ex (mC (.int 0))]), .ex (mOp oIx [.nm 1, .ex (mC (.int 1))])]), .ex (mC (.int 1))])])) (mRet (mC (.bl false))) (mPass))
  (mSeq (mFor (mRg [.ex (mC (.int 1)), .ex (mOp oIx [.nm 1, .ex (mC (.int 1))])]) (gN 4) (mIf (mTNot (mB (mCall (D__law_same 4) [.ex (mCall D_right_comes [.nm 0, .nm 4]), .ex (mOp oIx [.nm 2, .nm 4])]))) (mRet (mC (.bl false))) (mPass)))
  (mSeq (mFor (mRg [.ex (mOp oLen [.nm 3])]) (gN 5) (mIf (mTNot (mB (mCall (D__law_same 4) [.ex (mCall D_counts_at [.nm 0, .nm 5]), .ex (mOp oIx [.nm 3, .nm 5])]))) (mRet (mC (.bl false))) (mPass)))
  (mSeq (mFor (mRg [.ex (mOp oIx [.nm 1, .ex (mC (.int 0))])]) (gN 6) (mSeq (mSet 7 (mOp oIx [.ex (mComp (mRg [.ex (mOp oLen [.nm 3])]) [5] (gN 5) (mB (mOp (oEq false) [.ex (mOp oIx [.ex (mOp oIx [.nm 3, .nm 5]), .ex (mC (.int 0))]), .nm 6])) (mN 5)), .ex (mC (.int 0))]))
  (mSeq (mIf (mTNot (mB (mCall (D__law_same 4) [.ex (mCall D_left_begins [.nm 0, .nm 6]), .nm 7]))) (mRet (mC (.bl false))) (mPass))
  (mIf (mTNot (mB (mCall (D__law_same 4) [.ex (mCall D_rights_ahead [.nm 0, .nm 6]), .ex (mOp oIx [.ex (mOp oIx [.nm 3, .nm 7]), .ex (mC (.int 1))])]))) (mRet (mC (.bl false))) (mPass)))))
  (mSeq (mFor (mRg [.ex (mOp oIx [.nm 1, .ex (mC (.int 1))])]) (gN 8) (mSeq (mSet 7 (mOp oIx [.ex (mComp (mRg [.ex (mOp oLen [.nm 3])]) [5] (gN 5) (mB (mOp (oEq false) [.ex (mOp oIx [.ex (mOp oIx [.nm 3, .nm 5]), .ex (mC (.int 1))]), .nm 8])) (mN 5)), .ex (mC (.int 0))]))
  (mIf (mTNot (mB (mCall (D__law_same 4) [.ex (mCall D_right_begins [.nm 0, .nm 8]), .nm 7]))) (mRet (mC (.bl false))) (mPass))))
  (mRet (mC (.bl true)))))))))))
def D__law_small : List O → FR := fnD [0] 9 m__law_small
theorem sc__law_small : FnScope ["_law_sizes", "_law_halves_here", "_law_moments_here", "_law_walk_here", "_law_j", "_law_stage", "_law_left_here", "_law_first", "_law_right_here"] ["_law_sizes"] (defScope s__law_small) := ⟨rfl, rfl, rfl, by decide +kernel, rfl, by decide +kernel, by decide +kernel⟩
theorem ok__law_small {P : Program} {w : World} {K : PySem.W.Frag} {mg : Str → Option Value} {base : Heap} {ad : Nat → Addr} {fdn : Nat → FuncData} (T : Txt K mg ad fdn) : FnOk P w K mg base (L2N.CX P w) 9 (ad 39) (fdn 39) ["_law_sizes"] (FP K mg 1 D__law_small) := by
  refine ok_def [0] T.F__law_small sc__law_small fun cdv A outer s H E hr => ?_
  have nd := sc__law_small.nd
  have tk := L2N.takes_of (X := cxOf (L2N.CX P w) P w K mg base ["_law_sizes", "_law_halves_here", "_law_moments_here", "_law_walk_here", "_law_j", "_law_stage", "_law_left_here", "_law_first", "_law_right_here"] "_law_small" (defScope s__law_small) (ad 39) cdv A outer s H E) rfl rfl rfl rfl
  have po := passes_of (X := cxOf (L2N.CX P w) P w K mg base ["_law_sizes", "_law_halves_here", "_law_moments_here", "_law_walk_here", "_law_j", "_law_stage", "_law_left_here", "_law_first", "_law_right_here"] "_law_small" (defScope s__law_small) (ad 39) cdv A outer s H E) rfl
  exact (dss_cons (ds_set (i := 1) nd (de_call (ok__law_halves T) (hr.mono (by decide)) T.m__law_halves T.F__law_halves.kp T.b__law_halves tk (da_cons (dk_nm 0) da_nil)))
      (dss_cons (ds_if (dt_not (dt_val (de_call (ok__law_same T 4) (hr.mono (by decide)) T.m__law_same T.F__law_same.kp T.b__law_same tk (da_cons (dk_ex (de_call (ok_halves_of T) (hr.mono (by decide)) T.m_halves_of T.F_halves_of.kp T.b_halves_of tk (da_cons (dk_nm 0) da_nil))) (da_cons (dk_nm 1) da_nil))))) (dss_one (ds_ret de_bl)) dss_nil)
      (dss_cons (ds_set (i := 2) nd (de_call (ok__law_moments T) (hr.mono (by decide)) T.m__law_moments T.F__law_moments.kp T.b__law_moments tk (da_cons (dk_nm 1) da_nil)))
      (dss_cons (ds_set (i := 3) nd (de_call (ok__law_walk T) (hr.mono (by decide)) T.m__law_walk T.F__law_walk.kp T.b__law_walk tk (da_cons (dk_nm 1) (da_cons (dk_nm 2) da_nil))))
      (dss_cons (ds_if (dt_cmp (op_neD hr.units) s_ne (dk_ex (de_callB call_len_seq s_len T.b_len (da_cons (dk_nm 3) da_nil))) (dk_ex (de_bin op_sub s_sub (dk_ex (de_bin op_plus s_plus (dk_ex (de_ix ix_lt s_ix (dk_nm 1) (dk_ex de_int))) (dk_ex (de_ix ix_lt s_ix (dk_nm 1) (dk_ex de_int))))) (dk_ex de_int)))) (dss_one (ds_ret de_bl)) dss_nil)
      (dss_cons (ds_for po rfl (di_range2 T.b_range (da_cons (dk_ex de_int) (da_cons (dk_ex (de_ix ix_lt s_ix (dk_nm 1) (dk_ex de_int))) da_nil))) (dg_n (i := 4) nd) (dss_one (ds_if (dt_not (dt_val (de_call (ok__law_same T 4) (hr.mono (by decide)) T.m__law_same T.F__law_same.kp T.b__law_same tk (da_cons (dk_ex (de_call (ok_right_comes T) (hr.mono (by decide)) T.m_right_comes T.F_right_comes.kp T.b_right_comes tk (da_cons (dk_nm 0) (da_cons (dk_nm 4) da_nil)))) (da_cons (dk_ex (de_ix ix_lt s_ix (dk_nm 2) (dk_nm 4))) da_nil))))) (dss_one (ds_ret de_bl)) dss_nil)))
      (dss_cons (ds_for po rfl (di_range1 T.b_range (da_cons (dk_ex (de_callB call_len_seq s_len T.b_len (da_cons (dk_nm 3) da_nil))) da_nil)) (dg_n (i := 5) nd) (dss_one (ds_if (dt_not (dt_val (de_call (ok__law_same T 4) (hr.mono (by decide)) T.m__law_same T.F__law_same.kp T.b__law_same tk (da_cons (dk_ex (de_call (ok_counts_at T) (hr.mono (by decide)) T.m_counts_at T.F_counts_at.kp T.b_counts_at tk (da_cons (dk_nm 0) (da_cons (dk_nm 5) da_nil)))) (da_cons (dk_ex (de_ix ix_lt s_ix (dk_nm 3) (dk_nm 5))) da_nil))))) (dss_one (ds_ret de_bl)) dss_nil)))
      (dss_cons (ds_for po rfl (di_range1 T.b_range (da_cons (dk_ex (de_ix ix_lt s_ix (dk_nm 1) (dk_ex de_int))) da_nil)) (dg_n (i := 6) nd) (dss_cons (ds_set (i := 7) nd (de_ix ix_lt s_ix (dk_ex (de_comp (own := [("_law_stage", 5)]) rfl nd (blkOk_by rfl) (by decide) (di_range1 T.b_range (da_cons (dk_ex (de_callB call_len_seq s_len T.b_len (da_cons (dk_nm 3) da_nil))) da_nil)) (fun _ => pg_name (i := 5) nd rfl (by first | exact Or.inl rfl | exact Or.inr rfl)) (gsnd_n (i := 5) (by decide)) (gw_n (i := 5) (by decide)) (fun _ => (dts_one (dt_cmp (op_eqD hr.units) s_eq (dk_ex (de_ix ix_lt s_ix (dk_ex (de_ix ix_lt s_ix (dk_nm 3) (dk_nm 5))) (dk_ex de_int))) (dk_nm 6)))) (fun _ => (de_n 5)))) (dk_ex de_int)))
      (dss_cons (ds_if (dt_not (dt_val (de_call (ok__law_same T 4) (hr.mono (by decide)) T.m__law_same T.F__law_same.kp T.b__law_same tk (da_cons (dk_ex (de_call (ok_left_begins T) (hr.mono (by decide)) T.m_left_begins T.F_left_begins.kp T.b_left_begins tk (da_cons (dk_nm 0) (da_cons (dk_nm 6) da_nil)))) (da_cons (dk_nm 7) da_nil))))) (dss_one (ds_ret de_bl)) dss_nil)
      (dss_one (ds_if (dt_not (dt_val (de_call (ok__law_same T 4) (hr.mono (by decide)) T.m__law_same T.F__law_same.kp T.b__law_same tk (da_cons (dk_ex (de_call (ok_rights_ahead T) (hr.mono (by decide)) T.m_rights_ahead T.F_rights_ahead.kp T.b_rights_ahead tk (da_cons (dk_nm 0) (da_cons (dk_nm 6) da_nil)))) (da_cons (dk_ex (de_ix ix_lt s_ix (dk_ex (de_ix ix_lt s_ix (dk_nm 3) (dk_nm 7))) (dk_ex de_int))) da_nil))))) (dss_one (ds_ret de_bl)) dss_nil)))))
      (dss_cons (ds_for po rfl (di_range1 T.b_range (da_cons (dk_ex (de_ix ix_lt s_ix (dk_nm 1) (dk_ex de_int))) da_nil)) (dg_n (i := 8) nd) (dss_cons (ds_set (i := 7) nd (de_ix ix_lt s_ix (dk_ex (de_comp (own := [("_law_stage", 5)]) rfl nd (blkOk_by rfl) (by decide) (di_range1 T.b_range (da_cons (dk_ex (de_callB call_len_seq s_len T.b_len (da_cons (dk_nm 3) da_nil))) da_nil)) (fun _ => pg_name (i := 5) nd rfl (by first | exact Or.inl rfl | exact Or.inr rfl)) (gsnd_n (i := 5) (by decide)) (gw_n (i := 5) (by decide)) (fun _ => (dts_one (dt_cmp (op_eqD hr.units) s_eq (dk_ex (de_ix ix_lt s_ix (dk_ex (de_ix ix_lt s_ix (dk_nm 3) (dk_nm 5))) (dk_ex de_int))) (dk_nm 8)))) (fun _ => (de_n 5)))) (dk_ex de_int)))
      (dss_one (ds_if (dt_not (dt_val (de_call (ok__law_same T 4) (hr.mono (by decide)) T.m__law_same T.F__law_same.kp T.b__law_same tk (da_cons (dk_ex (de_call (ok_right_begins T) (hr.mono (by decide)) T.m_right_begins T.F_right_begins.kp T.b_right_begins tk (da_cons (dk_nm 0) (da_cons (dk_nm 8) da_nil)))) (da_cons (dk_nm 7) da_nil))))) (dss_one (ds_ret de_bl)) dss_nil))))
      (dss_one (ds_ret de_bl)))))))))))
/-! _law_come -/
def m__law_come : MS :=
  mSeq (mIf (mB (mOp oLe [.nm 2, .ex (mC (.int 0))])) (mRet (mC (.bl true))) (mPass))
  (mSeq (mIf (mTOr (mB (mOp oGe [.nm 2, .ex (mOp oIx [.nm 0, .ex (mC (.int 1))])])) (mB (mOp oLt [.nm 1, .ex (mC (.int 0))]))) (mRet (mC (.bl false))) (mPass))
  (mSeq (mSet 3 (mOp oMul [.ex (mOp oIx [.nm 0, .ex (mC (.int 3))]), .ex (mOp oSub [.ex (mOp oSub [.ex (mOp oIx [.nm 0, .ex (mC (.int 0))]), .ex (mC (.int 1))]), .nm 1])]))
  (mRet (mOr (mOp oLe [.ex (mOp oMul [.nm 2, .ex (mOp oIx [.nm 0, .ex (mC (.int 2))])]), .nm 1]) (mOp oGe [.ex (mOp oSub [.ex (mOp oSub [.ex (mOp oIx [.nm 0, .ex (mC (.int 1))]), .ex (mC (.int 1))]), .nm 2]), .nm 3])))))
def D__law_come : List O → FR := fnD [0, 1, 2] 4 m__law_come
theorem sc__law_come : FnScope ["_law_halves_here", "_law_left_here", "_law_right_here", "_law_later"] ["_law_halves_here", "_law_left_here", "_law_right_here"] (defScope s__law_come) := ⟨rfl, rfl, rfl, by decide +kernel, rfl, by decide +kernel, by decide +kernel⟩
theorem ok__law_come {P : Program} {w : World} {K : PySem.W.Frag} {mg : Str → Option Value} {base : Heap} {ad : Nat → Addr} {fdn : Nat → FuncData} (T : Txt K mg ad fdn) : FnOk P w K mg base (L2N.CX P w) 1 (ad 40) (fdn 40) ["_law_halves_here", "_law_left_here", "_law_right_here"] (FP K mg 3 D__law_come) := by
  refine ok_def [0, 1, 2] T.F__law_come sc__law_come fun cdv A outer s H E hr => ?_
  have nd := sc__law_come.nd
  have tk := L2N.takes_of (X := cxOf (L2N.CX P w) P w K mg base ["_law_halves_here", "_law_left_here", "_law_right_here", "_law_later"] "_law_come" (defScope s__law_come) (ad 40) cdv A outer s H E) rfl rfl rfl rfl
  have po := passes_of (X := cxOf (L2N.CX P w) P w K mg base ["_law_halves_here", "_law_left_here", "_law_right_here", "_law_later"] "_law_come" (defScope s__law_come) (ad 40) cdv A outer s H E) rfl
  exact (dss_cons (ds_if (dt_cmp op_le s_le (dk_nm 2) (dk_ex de_int)) (dss_one (ds_ret de_bl)) dss_nil)
      (dss_cons (ds_if (dt_w (dw_or (dt_cmp op_ge s_ge (dk_nm 2) (dk_ex (de_ix ix_lt s_ix (dk_nm 0) (dk_ex de_int)))) (dw_or1 (dt_cmp op_lt s_lt (dk_nm 1) (dk_ex de_int))))) (dss_one (ds_ret de_bl)) dss_nil)
      (dss_cons (ds_set (i := 3) nd (de_bin op_mulA s_mul (dk_ex (de_ix ix_lt s_ix (dk_nm 0) (dk_ex de_int))) (dk_ex (de_bin op_sub s_sub (dk_ex (de_bin op_sub s_sub (dk_ex (de_ix ix_lt s_ix (dk_nm 0) (dk_ex de_int))) (dk_ex de_int))) (dk_nm 1)))))
      (dss_one (ds_ret (de_or (de_cmp op_le s_le (dk_ex (de_bin op_mulA s_mul (dk_nm 2) (dk_ex (de_ix ix_lt s_ix (dk_nm 0) (dk_ex de_int))))) (dk_nm 1)) (de_one (de_cmp op_ge s_ge (dk_ex (de_bin op_sub s_sub (dk_ex (de_bin op_sub s_sub (dk_ex (de_ix ix_lt s_ix (dk_nm 0) (dk_ex de_int))) (dk_ex de_int))) (dk_nm 2))) (dk_nm 3)))))))))
/-! _law_stands -/
def m__law_stands : MS :=
  mSeq (mIf (mTOr (mB (mOp oLt [.nm 1, .ex (mC (.int 0))])) (mTOr (mB (mOp oGe [.nm 1, .ex (mOp oIx [.nm 0, .ex (mC (.int 0))])])) (mTOr (mB (mOp oLt [.nm 2, .ex (mC (.int 0))])) (mB (mOp oGe [.nm 2, .ex (mOp oIx [.nm 0, .ex (mC (.int 1))])]))))) (mRet (mC (.bl false))) (mPass))
  (mRet (mAnd (mCall D__law_come [.nm 0, .nm 1, .nm 2]) (mNot (mCall D__law_come [.nm 0, .ex (mOp oSub [.nm 1, .ex (mC (.int 1))]), .ex (mOp oPlus [.nm 2, .ex (mC (.int 1))])]))))
def D__law_stands : List O → FR := fnD [0, 1, 2] 3 m__law_stands
theorem sc__law_stands : FnScope ["_law_halves_here", "_law_left_here", "_law_right_here"] ["_law_halves_here", "_law_left_here", "_law_right_here"] (defScope s__law_stands) := ⟨rfl, rfl, rfl, by decide +kernel, rfl, by decide +kernel, by decide +kernel⟩
theorem ok__law_stands {P : Program} {w : World} {K : PySem.W.Frag} {mg : Str → Option Value} {base : Heap} {ad : Nat → Addr} {fdn : Nat → FuncData} (T : Txt K mg ad fdn) : FnOk P w K mg base (L2N.CX P w) 2 (ad 41) (fdn 41) ["_law_halves_here", "_law_left_here", "_law_right_here"] (FP K mg 3 D__law_stands) := by
  refine ok_def [0, 1, 2] T.F__law_stands sc__law_stands fun cdv A outer s H E hr => ?_
  have nd := sc__law_stands.nd
  have tk := L2N.takes_of (X := cxOf (L2N.CX P w) P w K mg base ["_law_halves_here", "_law_left_here", "_law_right_here"] "_law_stands" (defScope s__law_stands) (ad 41) cdv A outer s H E) rfl rfl rfl rfl
  have po := passes_of (X := cxOf (L2N.CX P w) P w K mg base ["_law_halves_here", "_law_left_here", "_law_right_here"] "_law_stands" (defScope s__law_stands) (ad 41) cdv A outer s H E) rfl
  exact (dss_cons (ds_if (dt_w (dw_or (dt_cmp op_lt s_lt (dk_nm 1) (dk_ex de_int)) (dw_or (dt_cmp op_ge s_ge (dk_nm 1) (dk_ex (de_ix ix_lt s_ix (dk_nm 0) (dk_ex de_int)))) (dw_or (dt_cmp op_lt s_lt (dk_nm 2) (dk_ex de_int)) (dw_or1 (dt_cmp op_ge s_ge (dk_nm 2) (dk_ex (de_ix ix_lt s_ix (dk_nm 0) (dk_ex de_int))))))))) (dss_one (ds_ret de_bl)) dss_nil)
      (dss_one (ds_ret (de_and (de_call (ok__law_come T) (hr.mono (by decide)) T.m__law_come T.F__law_come.kp T.b__law_come tk (da_cons (dk_nm 0) (da_cons (dk_nm 1) (da_cons (dk_nm 2) da_nil)))) (de_one (de_not (de_call (ok__law_come T) (hr.mono (by decide)) T.m__law_come T.F__law_come.kp T.b__law_come tk (da_cons (dk_nm 0) (da_cons (dk_ex (de_bin op_sub s_sub (dk_nm 1) (dk_ex de_int))) (da_cons (dk_ex (de_bin op_plus s_plus (dk_nm 2) (dk_ex de_int))) da_nil))))))))))
/-! _law_whole -/
def m__law_whole : MS :=
  mRet (mAnd (mOp (oIsi "int") [.nm 0]) (mAnd (mNot (mOp (oIsi "bool") [.nm 0])) (mAnd (mOp oGe [.nm 0, .ex (mC (.int 0))]) (mOp oLt [.nm 0, .nm 1]))))
def D__law_whole : List O → FR := fnD [0, 1] 2 m__law_whole
theorem sc__law_whole : FnScope ["_law_got", "_law_top"] ["_law_got", "_law_top"] (defScope s__law_whole) := ⟨rfl, rfl, rfl, by decide +kernel, rfl, by decide +kernel, by decide +kernel⟩
theorem ok__law_whole {P : Program} {w : World} {K : PySem.W.Frag} {mg : Str → Option Value} {base : Heap} {ad : Nat → Addr} {fdn : Nat → FuncData} (T : Txt K mg ad fdn) : FnOk P w K mg base (L2N.CX P w) 1 (ad 42) (fdn 42) ["_law_got", "_law_top"] (FP K mg 2 D__law_whole) := by
  refine ok_def [0, 1] T.F__law_whole sc__law_whole fun cdv A outer s H E hr => ?_
  have nd := sc__law_whole.nd
  have tk := L2N.takes_of (X := cxOf (L2N.CX P w) P w K mg base ["_law_got", "_law_top"] "_law_whole" (defScope s__law_whole) (ad 42) cdv A outer s H E) rfl rfl rfl rfl
  have po := passes_of (X := cxOf (L2N.CX P w) P w K mg base ["_law_got", "_law_top"] "_law_whole" (defScope s__law_whole) (ad 42) cdv A outer s H E) rfl
  exact (dss_one (ds_ret (de_and (de_isi (T := "int") T.b_isinstance T.b_int (dk_nm 0)) (de_and (de_not (de_isi (T := "bool") T.b_isinstance T.b_bool (dk_nm 0))) (de_and (de_cmp op_ge s_ge (dk_nm 0) (dk_ex de_int)) (de_one (de_cmp op_lt s_lt (dk_nm 0) (dk_nm 1))))))))
/-! _law_left -/
def m__law_left : MS :=
  mSeq (mSet 3 (mCall D_left_begins [.nm 0, .nm 2]))
  (mSeq (mSet 4 (mCall D_rights_ahead [.nm 0, .nm 2]))
  (mSeq (mIf (mTOr (mTNot (mB (mCall D__law_whole [.nm 3, .ex (mOp oSub [.ex (mOp oPlus [.ex (mOp oIx [.nm 1, .ex (mC (.int 0))]), .ex (mOp oIx [.nm 1, .ex (mC (.int 1))])]), .ex (mC (.int 1))])]))) (mTNot (mB (mCall D__law_whole [.nm 4, .ex (mOp oIx [.nm 1, .ex (mC (.int 1))])])))) (mRet (mC (.bl false))) (mPass))
  (mSeq (mIf (mB (mOp (oEq true) [.nm 3, .ex (mOp oPlus [.nm 2, .nm 4])])) (mRet (mC (.bl false))) (mPass))
  (mSeq (mIf (mB (mOp (oEq false) [.nm 2, .ex (mC (.int 0))])) (mRet (mOp (oEq false) [.nm 4, .ex (mC (.int 0))])) (mPass))
  (mRet (mAnd (mCall D__law_stands [.nm 1, .ex (mOp oSub [.nm 2, .ex (mC (.int 1))]), .nm 4]) (mCall D__law_stands [.nm 1, .nm 2, .nm 4])))))))
def D__law_left : List O → FR := fnD [0, 1, 2] 5 m__law_left
theorem sc__law_left : FnScope ["_law_sizes", "_law_halves_here", "_law_left_here", "_law_begin", "_law_ahead"] ["_law_sizes", "_law_halves_here", "_law_left_here"] (defScope s__law_left) := ⟨rfl, rfl, rfl, by decide +kernel, rfl, by decide +kernel, by decide +kernel⟩
theorem ok__law_left {P : Program} {w : World} {K : PySem.W.Frag} {mg : Str → Option Value} {base : Heap} {ad : Nat → Addr} {fdn : Nat → FuncData} (T : Txt K mg ad fdn) : FnOk P w K mg base (L2N.CX P w) 9 (ad 43) (fdn 43) ["_law_sizes", "_law_halves_here", "_law_left_here"] (FP K mg 3 D__law_left) := by
  refine ok_def [0, 1, 2] T.F__law_left sc__law_left fun cdv A outer s H E hr => ?_
  have nd := sc__law_left.nd
  have tk := L2N.takes_of (X := cxOf (L2N.CX P w) P w K mg base ["_law_sizes", "_law_halves_here", "_law_left_here", "_law_begin", "_law_ahead"] "_law_left" (defScope s__law_left) (ad 43) cdv A outer s H E) rfl rfl rfl rfl
  have po := passes_of (X := cxOf (L2N.CX P w) P w K mg base ["_law_sizes", "_law_halves_here", "_law_left_here", "_law_begin", "_law_ahead"] "_law_left" (defScope s__law_left) (ad 43) cdv A outer s H E) rfl
  exact (dss_cons (ds_set (i := 3) nd (de_call (ok_left_begins T) (hr.mono (by decide)) T.m_left_begins T.F_left_begins.kp T.b_left_begins tk (da_cons (dk_nm 0) (da_cons (dk_nm 2) da_nil))))
      (dss_cons (ds_set (i := 4) nd (de_call (ok_rights_ahead T) (hr.mono (by decide)) T.m_rights_ahead T.F_rights_ahead.kp T.b_rights_ahead tk (da_cons (dk_nm 0) (da_cons (dk_nm 2) da_nil))))
      (dss_cons (ds_if (dt_w (dw_or (dt_not (dt_val (de_call (ok__law_whole T) (hr.mono (by decide)) T.m__law_whole T.F__law_whole.kp T.b__law_whole tk (da_cons (dk_nm 3) (da_cons (dk_ex (de_bin op_sub s_sub (dk_ex (de_bin op_plus s_plus (dk_ex (de_ix ix_lt s_ix (dk_nm 1) (dk_ex de_int))) (dk_ex (de_ix ix_lt s_ix (dk_nm 1) (dk_ex de_int))))) (dk_ex de_int))) da_nil))))) (dw_or1 (dt_not (dt_val (de_call (ok__law_whole T) (hr.mono (by decide)) T.m__law_whole T.F__law_whole.kp T.b__law_whole tk (da_cons (dk_nm 4) (da_cons (dk_ex (de_ix ix_lt s_ix (dk_nm 1) (dk_ex de_int))) da_nil)))))))) (dss_one (ds_ret de_bl)) dss_nil)
      (dss_cons (ds_if (dt_cmp (op_neD hr.units) s_ne (dk_nm 3) (dk_ex (de_bin op_plus s_plus (dk_nm 2) (dk_nm 4)))) (dss_one (ds_ret de_bl)) dss_nil)
      (dss_cons (ds_if (dt_cmp (op_eqD hr.units) s_eq (dk_nm 2) (dk_ex de_int)) (dss_one (ds_ret (de_cmp (op_eqD hr.units) s_eq (dk_nm 4) (dk_ex de_int)))) dss_nil)
      (dss_one (ds_ret (de_and (de_call (ok__law_stands T) (hr.mono (by decide)) T.m__law_stands T.F__law_stands.kp T.b__law_stands tk (da_cons (dk_nm 1) (da_cons (dk_ex (de_bin op_sub s_sub (dk_nm 2) (dk_ex de_int))) (da_cons (dk_nm 4) da_nil)))) (de_one (de_call (ok__law_stands T) (hr.mono (by decide)) T.m__law_stands T.F__law_stands.kp T.b__law_stands tk (da_cons (dk_nm 1) (da_cons (dk_nm 2) (da_cons (dk_nm 4) da_nil)))))))))))))
/-! _law_right -/
def m__law_right : MS :=
  mSeq (mSet 3 (mCall D_right_begins [.nm 0, .nm 2]))
  (mSeq (mIf (mTNot (mB (mCall D__law_whole [.nm 3, .ex (mOp oSub [.ex (mOp oPlus [.ex (mOp oIx [.nm 1, .ex (mC (.int 0))]), .ex (mOp oIx [.nm 1, .ex (mC (.int 1))])]), .ex (mC (.int 1))])]))) (mRet (mC (.bl false))) (mPass))
  (mSeq (mIf (mB (mOp (oEq false) [.nm 2, .ex (mC (.int 0))])) (mRet (mOp (oEq false) [.nm 3, .ex (mC (.int 0))])) (mPass))
  (mSeq (mSet 4 (mCall D_right_comes [.nm 0, .nm 2]))
  (mSeq (mIf (mTOr (mTNot (mB (mCall D__law_whole [.nm 4, .ex (mOp oIx [.nm 1, .ex (mC (.int 0))])]))) (mB (mOp (oEq true) [.nm 3, .ex (mOp oPlus [.nm 4, .nm 2])]))) (mRet (mC (.bl false))) (mPass))
  (mSeq (mIf (mTAnd (mB (mOp oGt [.nm 4, .ex (mC (.int 0))])) (mB (mCall D__law_come [.nm 1, .ex (mOp oSub [.nm 4, .ex (mC (.int 1))]), .nm 2]))) (mRet (mC (.bl false))) (mPass))
  (mRet (mAnd (mCall D__law_stands [.nm 1, .nm 4, .nm 2]) (mCall D__law_stands [.nm 1, .nm 4, .ex (mOp oSub [.nm 2, .ex (mC (.int 1))])]))))))))
def D__law_right : List O → FR := fnD [0, 1, 2] 5 m__law_right
theorem sc__law_right : FnScope ["_law_sizes", "_law_halves_here", "_law_right_here", "_law_begin", "_law_come_here"] ["_law_sizes", "_law_halves_here", "_law_right_here"] (defScope s__law_right) := ⟨rfl, rfl, rfl, by decide +kernel, rfl, by decide +kernel, by decide +kernel⟩
theorem ok__law_right {P : Program} {w : World} {K : PySem.W.Frag} {mg : Str → Option Value} {base : Heap} {ad : Nat → Addr} {fdn : Nat → FuncData} (T : Txt K mg ad fdn) : FnOk P w K mg base (L2N.CX P w) 8 (ad 44) (fdn 44) ["_law_sizes", "_law_halves_here", "_law_right_here"] (FP K mg 3 D__law_right) := by
  refine ok_def [0, 1, 2] T.F__law_right sc__law_right fun cdv A outer s H E hr => ?_
  have nd := sc__law_right.nd
  have tk := L2N.takes_of (X := cxOf (L2N.CX P w) P w K mg base ["_law_sizes", "_law_halves_here", "_law_right_here", "_law_begin", "_law_come_here"] "_law_right" (defScope s__law_right) (ad 44) cdv A outer s H E) rfl rfl rfl rfl
  have po := passes_of (X := cxOf (L2N.CX P w) P w K mg base ["_law_sizes", "_law_halves_here", "_law_right_here", "_law_begin", "_law_come_here"] "_law_right" (defScope s__law_right) (ad 44) cdv A outer s H E) rfl
  exact (dss_cons (ds_set (i := 3) nd (de_call (ok_right_begins T) (hr.mono (by decide)) T.m_right_begins T.F_right_begins.kp T.b_right_begins tk (da_cons (dk_nm 0) (da_cons (dk_nm 2) da_nil))))
      (dss_cons (ds_if (dt_not (dt_val (de_call (ok__law_whole T) (hr.mono (by decide)) T.m__law_whole T.F__law_whole.kp T.b__law_whole tk (da_cons (dk_nm 3) (da_cons (dk_ex (de_bin op_sub s_sub (dk_ex (de_bin op_plus s_plus (dk_ex (de_ix ix_lt s_ix (dk_nm 1) (dk_ex de_int))) (dk_ex (de_ix ix_lt s_ix (dk_nm 1) (dk_ex de_int))))) (dk_ex de_int))) da_nil))))) (dss_one (ds_ret de_bl)) dss_nil)
      (dss_cons (ds_if (dt_cmp (op_eqD hr.units) s_eq (dk_nm 2) (dk_ex de_int)) (dss_one (ds_ret (de_cmp (op_eqD hr.units) s_eq (dk_nm 3) (dk_ex de_int)))) dss_nil)
      (dss_cons (ds_set (i := 4) nd (de_call (ok_right_comes T) (hr.mono (by decide)) T.m_right_comes T.F_right_comes.kp T.b_right_comes tk (da_cons (dk_nm 0) (da_cons (dk_nm 2) da_nil))))
      (dss_cons (ds_if (dt_w (dw_or (dt_not (dt_val (de_call (ok__law_whole T) (hr.mono (by decide)) T.m__law_whole T.F__law_whole.kp T.b__law_whole tk (da_cons (dk_nm 4) (da_cons (dk_ex (de_ix ix_lt s_ix (dk_nm 1) (dk_ex de_int))) da_nil))))) (dw_or1 (dt_cmp (op_neD hr.units) s_ne (dk_nm 3) (dk_ex (de_bin op_plus s_plus (dk_nm 4) (dk_nm 2))))))) (dss_one (ds_ret de_bl)) dss_nil)
      (dss_cons (ds_if (dt_w (dw_and (dt_cmp op_gt s_gt (dk_nm 4) (dk_ex de_int)) (dw_and1 (dt_val (de_call (ok__law_come T) (hr.mono (by decide)) T.m__law_come T.F__law_come.kp T.b__law_come tk (da_cons (dk_nm 1) (da_cons (dk_ex (de_bin op_sub s_sub (dk_nm 4) (dk_ex de_int))) (da_cons (dk_nm 2) da_nil)))))))) (dss_one (ds_ret de_bl)) dss_nil)
      (dss_one (ds_ret (de_and (de_call (ok__law_stands T) (hr.mono (by decide)) T.m__law_stands T.F__law_stands.kp T.b__law_stands tk (da_cons (dk_nm 1) (da_cons (dk_nm 4) (da_cons (dk_nm 2) da_nil)))) (de_one (de_call (ok__law_stands T) (hr.mono (by decide)) T.m__law_stands T.F__law_stands.kp T.b__law_stands tk (da_cons (dk_nm 1) (da_cons (dk_nm 4) (da_cons (dk_ex (de_bin op_sub s_sub (dk_nm 2) (dk_ex de_int))) da_nil))))))))))))))
/-! _law_wide -/
def m__law_wide : MS :=
  mSeq (mSet 1 (mCall D__law_wide_sizes [.nm 0]))
  (mSeq (mSet 2 (mCall D__law_halves [.nm 1]))
  (mSeq (mIf (mTNot (mB (mCall (D__law_same 4) [.ex (mCall D_halves_of [.nm 1]), .nm 2]))) (mRet (mC (.bl false))) (mPass))
  (mSeq (mSet 3 (mOp oSub [.ex (mOp oPlus [.ex (mOp oIx [.nm 2, .ex (mC (.int 0))]), .ex (mOp oIx [.nm 2, .ex (mC (.int 1))])]), .ex (mC (.int 1))]))
  (mSeq (mSet 4 (mOp oMin2 [.ex (mOp oSub [.ex (mOp oIx [.nm 2, .ex (mC (.int 1))]), .ex (mC (.int 1))]), .ex (mOp oDiv [.ex (mOp oIx [.nm 2, .ex (mC (.int 0))]), .ex (mOp oIx [.nm 2, .ex (mC (.int 2))])])]))
  (mSeq (mSet 5 (mAll oLst [.ex (mC (.int 0)), .ex (mOp oSub [.nm 3, .ex (mC (.int 1))]), .ex (mCall D__law_number [.nm 0, .nm 3]), .ex (mCall D__law_number [.nm 0, .nm 3])]))
  (mSeq (mExpr (mMut 5 fApp [.ex (mOp oMin2 [.ex (mOp oSub [.nm 3, .ex (mC (.int 1))]), .ex (mOp oPlus [.ex (mOp oPlus [.nm 4, .ex (mOp oMul [.nm 4, .ex (mOp oIx [.nm 2, .ex (mC (.int 2))])])]), .ex (mCall D__law_take [.nm 0, .ex (mC (.int 3))])])])]))
  (mSeq (mFor (mIt itS (mN 5)) (gN 6) (mSeq (mSet 7 (mCall D_counts_at [.nm 1, .nm 6]))
  (mSeq (mIf (mTOr (mTNot (mB (mOp (oIsi "tuple") [.nm 7]))) (mB (mOp (oEq true) [.ex (mOp oLen [.nm 7]), .ex (mC (.int 2))]))) (mRet (mC (.bl false))) (mPass))
  (mSeq (mIf (mTOr (mTNot (mB (mCall D__law_whole [.ex (mOp oIx [.nm 7, .ex (mC (.int 0))]), .ex (mOp oIx [.nm 2, .ex (mC (.int 0))])]))) (mTNot (mB (mCall D__law_whole [.ex (mOp oIx [.nm 7, .ex (mC (.int 1))]), .ex (mOp oIx [.nm 2, .ex (mC (.int 1))])])))) (mRet (mC (.bl false))) (mPass))
  (mIf (mTOr (mB (mOp (oEq true) [.ex (mOp oPlus [.ex (mOp oIx [.nm 7, .ex (mC (.int 0))]), .ex (mOp oIx [.nm 7, .ex (mC (.int 1))])]), .nm 6])) (mTNot (mB (mCall D__law_stands [.nm 2, .ex (mOp oIx [.nm 7, .ex (mC (.int 0))]), .ex (mOp oIx [.nm 7, .ex (mC (.int 1))])])))) (mRet (mC (.bl false))) (mPass))))))
  (mSeq (mSet 8 (mOp oMul [.ex (mOp oIx [.nm 2, .ex (mC (.int 2))]), .ex (mCall D__law_number [.nm 0, .ex (mOp oMax2 [.ex (mC (.int 1)), .ex (mOp oDiv [.ex (mOp oIx [.nm 2, .ex (mC (.int 0))]), .ex (mOp oIx [.nm 2, .ex (mC (.int 2))])])])])]))
  (mSeq (mFor (mIt itS (mAll oTup [.ex (mC (.int 0)), .ex (mC (.int 1)), .ex (mOp oSub [.ex (mOp oIx [.nm 2, .ex (mC (.int 0))]), .ex (mC (.int 1))]), .ex (mCall D__law_number [.nm 0, .ex (mOp oIx [.nm 2, .ex (mC (.int 0))])]), .ex (mN 8), .ex (mOp oMin2 [.ex (mOp oPlus [.nm 8, .ex (mC (.int 1))]), .ex (mOp oSub [.ex (mOp oIx [.nm 2, .ex (mC (.int 0))]), .ex (mC (.int 1))])])])) (gN 9) (mIf (mTNot (mB (mCall D__law_left [.nm 1, .nm 2, .nm 9]))) (mRet (mC (.bl false))) (mPass)))
  (mSeq (mSet 8 (mOp oMul [.ex (mOp oIx [.nm 2, .ex (mC (.int 3))]), .ex (mCall D__law_number [.nm 0, .ex (mOp oMax2 [.ex (mC (.int 1)), .ex (mOp oDiv [.ex (mOp oIx [.nm 2, .ex (mC (.int 1))]), .ex (mOp oIx [.nm 2, .ex (mC (.int 3))])])])])]))
  (mSeq (mFor (mIt itS (mAll oTup [.ex (mC (.int 0)), .ex (mC (.int 1)), .ex (mOp oSub [.ex (mOp oIx [.nm 2, .ex (mC (.int 1))]), .ex (mC (.int 1))]), .ex (mCall D__law_number [.nm 0, .ex (mOp oIx [.nm 2, .ex (mC (.int 1))])]), .ex (mN 8), .ex (mN 4), .ex (mOp oMin2 [.ex (mOp oPlus [.nm 4, .ex (mC (.int 1))]), .ex (mOp oSub [.ex (mOp oIx [.nm 2, .ex (mC (.int 1))]), .ex (mC (.int 1))])])])) (gN 10) (mIf (mTNot (mB (mCall D__law_right [.nm 1, .nm 2, .nm 10]))) (mRet (mC (.bl false))) (mPass)))
  (mRet (mC (.bl true))))))))))))))
def D__law_wide : List O → FR := fnD [0] 11 m__law_wide
theorem sc__law_wide : FnScope ["_law_pool", "_law_sizes", "_law_halves_here", "_law_held", "_law_meet", "_law_stages", "_law_stage", "_law_pair", "_law_block", "_law_left_here", "_law_right_here"] ["_law_pool"] (defScope s__law_wide) := ⟨rfl, rfl, rfl, by decide +kernel, rfl, by decide +kernel, by decide +kernel⟩
theorem ok__law_wide {P : Program} {w : World} {K : PySem.W.Frag} {mg : Str → Option Value} {base : Heap} {ad : Nat → Addr} {fdn : Nat → FuncData} (T : Txt K mg ad fdn) : FnOk P w K mg base (L2N.CX P w) 10 (ad 45) (fdn 45) ["_law_pool"] (FP K mg 1 D__law_wide) := by
  refine ok_def [0] T.F__law_wide sc__law_wide fun cdv A outer s H E hr => ?_
  have nd := sc__law_wide.nd
  have tk := L2N.takes_of (X := cxOf (L2N.CX P w) P w K mg base ["_law_pool", "_law_sizes", "_law_halves_here", "_law_held", "_law_meet", "_law_stages", "_law_stage", "_law_pair", "_law_block", "_law_left_here", "_law_right_here"] "_law_wide" (defScope s__law_wide) (ad 45) cdv A outer s H E) rfl rfl rfl rfl
  have po := passes_of (X := cxOf (L2N.CX P w) P w K mg base ["_law_pool", "_law_sizes", "_law_halves_here", "_law_held", "_law_meet", "_law_stages", "_law_stage", "_law_pair", "_law_block", "_law_left_here", "_law_right_here"] "_law_wide" (defScope s__law_wide) (ad 45) cdv A outer s H E) rfl
  exact (dss_cons (ds_set (i := 1) nd (de_call (ok__law_wide_sizes T) (hr.mono (by decide)) T.m__law_wide_sizes T.F__law_wide_sizes.kp T.b__law_wide_sizes tk (da_cons (dk_nm 0) da_nil)))
      (dss_cons (ds_set (i := 2) nd (de_call (ok__law_halves T) (hr.mono (by decide)) T.m__law_halves T.F__law_halves.kp T.b__law_halves tk (da_cons (dk_nm 1) da_nil)))
      (dss_cons (ds_if (dt_not (dt_val (de_call (ok__law_same T 4) (hr.mono (by decide)) T.m__law_same T.F__law_same.kp T.b__law_same tk (da_cons (dk_ex (de_call (ok_halves_of T) (hr.mono (by decide)) T.m_halves_of T.F_halves_of.kp T.b_halves_of tk (da_cons (dk_nm 1) da_nil))) (da_cons (dk_nm 2) da_nil))))) (dss_one (ds_ret de_bl)) dss_nil)
      (dss_cons (ds_set (i := 3) nd (de_bin op_sub s_sub (dk_ex (de_bin op_plus s_plus (dk_ex (de_ix ix_lt s_ix (dk_nm 2) (dk_ex de_int))) (dk_ex (de_ix ix_lt s_ix (dk_nm 2) (dk_ex de_int))))) (dk_ex de_int)))
      (dss_cons (ds_set (i := 4) nd (de_callB (call_min2 rfl) s_min2 T.b_min (da_cons (dk_ex (de_bin op_sub s_sub (dk_ex (de_ix ix_lt s_ix (dk_nm 2) (dk_ex de_int))) (dk_ex de_int))) (da_cons (dk_ex (de_bin op_fdivW s_div (dk_ex (de_ix ix_lt s_ix (dk_nm 2) (dk_ex de_int))) (dk_ex (de_ix ix_lt s_ix (dk_nm 2) (dk_ex de_int))))) da_nil))))
      (dss_cons (ds_set (i := 5) nd (de_lst (da_cons (dk_ex de_int) (da_cons (dk_ex (de_bin op_sub s_sub (dk_nm 3) (dk_ex de_int))) (da_cons (dk_ex (de_call (ok__law_number T) (hr.mono (by decide)) T.m__law_number T.F__law_number.kp T.b__law_number tk (da_cons (dk_nm 0) (da_cons (dk_nm 3) da_nil)))) (da_cons (dk_ex (de_call (ok__law_number T) (hr.mono (by decide)) T.m__law_number T.F__law_number.kp T.b__law_number tk (da_cons (dk_nm 0) (da_cons (dk_nm 3) da_nil)))) da_nil))))))
      (dss_cons (ds_expr (de_mut (i := 5) PySem.F.plainAttrs_list PySem.F.slot_list_append PySem.F.type_list_append mt_append s_app (da_cons (dk_ex (de_callB (call_min2 rfl) s_min2 T.b_min (da_cons (dk_ex (de_bin op_sub s_sub (dk_nm 3) (dk_ex de_int))) (da_cons (dk_ex (de_bin op_plus s_plus (dk_ex (de_bin op_plus s_plus (dk_nm 4) (dk_ex (de_bin op_mulA s_mul (dk_nm 4) (dk_ex (de_ix ix_lt s_ix (dk_nm 2) (dk_ex de_int))))))) (dk_ex (de_call (ok__law_take T) (hr.mono (by decide)) T.m__law_take T.F__law_take.kp T.b__law_take tk (da_cons (dk_nm 0) (da_cons (dk_ex de_int) da_nil)))))) da_nil)))) da_nil)))
      (dss_cons (ds_for po rfl (di_seq (de_n 5)) (dg_n (i := 6) nd) (dss_cons (ds_set (i := 7) nd (de_call (ok_counts_at T) (hr.mono (by decide)) T.m_counts_at T.F_counts_at.kp T.b_counts_at tk (da_cons (dk_nm 1) (da_cons (dk_nm 6) da_nil))))
      (dss_cons (ds_if (dt_w (dw_or (dt_not (dt_val (de_isi (T := "tuple") T.b_isinstance T.b_tuple (dk_nm 7)))) (dw_or1 (dt_cmp (op_neD hr.units) s_ne (dk_ex (de_callB call_len_seq s_len T.b_len (da_cons (dk_nm 7) da_nil))) (dk_ex de_int))))) (dss_one (ds_ret de_bl)) dss_nil)
      (dss_cons (ds_if (dt_w (dw_or (dt_not (dt_val (de_call (ok__law_whole T) (hr.mono (by decide)) T.m__law_whole T.F__law_whole.kp T.b__law_whole tk (da_cons (dk_ex (de_ix ix_lt s_ix (dk_nm 7) (dk_ex de_int))) (da_cons (dk_ex (de_ix ix_lt s_ix (dk_nm 2) (dk_ex de_int))) da_nil))))) (dw_or1 (dt_not (dt_val (de_call (ok__law_whole T) (hr.mono (by decide)) T.m__law_whole T.F__law_whole.kp T.b__law_whole tk (da_cons (dk_ex (de_ix ix_lt s_ix (dk_nm 7) (dk_ex de_int))) (da_cons (dk_ex (de_ix ix_lt s_ix (dk_nm 2) (dk_ex de_int))) da_nil)))))))) (dss_one (ds_ret de_bl)) dss_nil)
      (dss_one (ds_if (dt_w (dw_or (dt_cmp (op_neD hr.units) s_ne (dk_ex (de_bin op_plus s_plus (dk_ex (de_ix ix_lt s_ix (dk_nm 7) (dk_ex de_int))) (dk_ex (de_ix ix_lt s_ix (dk_nm 7) (dk_ex de_int))))) (dk_nm 6)) (dw_or1 (dt_not (dt_val (de_call (ok__law_stands T) (hr.mono (by decide)) T.m__law_stands T.F__law_stands.kp T.b__law_stands tk (da_cons (dk_nm 2) (da_cons (dk_ex (de_ix ix_lt s_ix (dk_nm 7) (dk_ex de_int))) (da_cons (dk_ex (de_ix ix_lt s_ix (dk_nm 7) (dk_ex de_int))) da_nil))))))))) (dss_one (ds_ret de_bl)) dss_nil))))))
      (dss_cons (ds_set (i := 8) nd (de_bin op_mulA s_mul (dk_ex (de_ix ix_lt s_ix (dk_nm 2) (dk_ex de_int))) (dk_ex (de_call (ok__law_number T) (hr.mono (by decide)) T.m__law_number T.F__law_number.kp T.b__law_number tk (da_cons (dk_nm 0) (da_cons (dk_ex (de_callB (call_max2 rfl) s_max2 T.b_max (da_cons (dk_ex de_int) (da_cons (dk_ex (de_bin op_fdivW s_div (dk_ex (de_ix ix_lt s_ix (dk_nm 2) (dk_ex de_int))) (dk_ex (de_ix ix_lt s_ix (dk_nm 2) (dk_ex de_int))))) da_nil)))) da_nil))))))
      (dss_cons (ds_for po rfl (di_seq (de_tup (da_cons (dk_ex de_int) (da_cons (dk_ex de_int) (da_cons (dk_ex (de_bin op_sub s_sub (dk_ex (de_ix ix_lt s_ix (dk_nm 2) (dk_ex de_int))) (dk_ex de_int))) (da_cons (dk_ex (de_call (ok__law_number T) (hr.mono (by decide)) T.m__law_number T.F__law_number.kp T.b__law_number tk (da_cons (dk_nm 0) (da_cons (dk_ex (de_ix ix_lt s_ix (dk_nm 2) (dk_ex de_int))) da_nil)))) (da_cons (dk_ex (de_n 8)) (da_cons (dk_ex (de_callB (call_min2 rfl) s_min2 T.b_min (da_cons (dk_ex (de_bin op_plus s_plus (dk_nm 8) (dk_ex de_int))) (da_cons (dk_ex (de_bin op_sub s_sub (dk_ex (de_ix ix_lt s_ix (dk_nm 2) (dk_ex de_int))) (dk_ex de_int))) da_nil)))) da_nil)))))))) (dg_n (i := 9) nd) (dss_one (ds_if (dt_not (dt_val (de_call (ok__law_left T) (hr.mono (by decide)) T.m__law_left T.F__law_left.kp T.b__law_left tk (da_cons (dk_nm 1) (da_cons (dk_nm 2) (da_cons (dk_nm 9) da_nil)))))) (dss_one (ds_ret de_bl)) dss_nil)))
      (dss_cons (ds_set (i := 8) nd (de_bin op_mulA s_mul (dk_ex (de_ix ix_lt s_ix (dk_nm 2) (dk_ex de_int))) (dk_ex (de_call (ok__law_number T) (hr.mono (by decide)) T.m__law_number T.F__law_number.kp T.b__law_number tk (da_cons (dk_nm 0) (da_cons (dk_ex (de_callB (call_max2 rfl) s_max2 T.b_max (da_cons (dk_ex de_int) (da_cons (dk_ex (de_bin op_fdivW s_div (dk_ex (de_ix ix_lt s_ix (dk_nm 2) (dk_ex de_int))) (dk_ex (de_ix ix_lt s_ix (dk_nm 2) (dk_ex de_int))))) da_nil)))) da_nil))))))
      (dss_cons (ds_for po rfl (di_seq (de_tup (da_cons (dk_ex de_int) (da_cons (dk_ex de_int) (da_cons (dk_ex (de_bin op_sub s_sub (dk_ex (de_ix ix_lt s_ix (dk_nm 2) (dk_ex de_int))) (dk_ex de_int))) (da_cons (dk_ex (de_call (ok__law_number T) (hr.mono (by decide)) T.m__law_number T.F__law_number.kp T.b__law_number tk (da_cons (dk_nm 0) (da_cons (dk_ex (de_ix ix_lt s_ix (dk_nm 2) (dk_ex de_int))) da_nil)))) (da_cons (dk_ex (de_n 8)) (da_cons (dk_ex (de_n 4)) (da_cons (dk_ex (de_callB (call_min2 rfl) s_min2 T.b_min (da_cons (dk_ex (de_bin op_plus s_plus (dk_nm 4) (dk_ex de_int))) (da_cons (dk_ex (de_bin op_sub s_sub (dk_ex (de_ix ix_lt s_ix (dk_nm 2) (dk_ex de_int))) (dk_ex de_int))) da_nil)))) da_nil))))))))) (dg_n (i := 10) nd) (dss_one (ds_if (dt_not (dt_val (de_call (ok__law_right T) (hr.mono (by decide)) T.m__law_right T.F__law_right.kp T.b__law_right tk (da_cons (dk_nm 1) (da_cons (dk_nm 2) (da_cons (dk_nm 10) da_nil)))))) (dss_one (ds_ret de_bl)) dss_nil)))
      (dss_one (ds_ret de_bl))))))))))))))
/-! _law_told -/
def m__law_told : MS :=
  mSeq (mTry xCat_StoodError 3 (mIf (mB (mOp (oEq false) [.nm 0, .ex (mC (.int 0))])) (mExpr (mCall D_halves_of [.nm 1])) (mIf (mB (mOp (oEq false) [.nm 0, .ex (mC (.int 1))])) (mExpr (mCall D_right_comes [.nm 1, .nm 2])) (mIf (mB (mOp (oEq false) [.nm 0, .ex (mC (.int 2))])) (mExpr (mCallP [1, 0] D_right_comes [.nm 2, .nm 1])) (mIf (mB (mOp (oEq false) [.nm 0, .ex (mC (.int 3))])) (mExpr (mCall D_rights_ahead [.nm 1, .nm 2])) (mIf (mB (mOp (oEq false) [.nm 0, .ex (mC (.int 4))])) (mExpr (mCallP [1, 0] D_rights_ahead [.nm 2, .nm 1])) (mIf (mB (mOp (oEq false) [.nm 0, .ex (mC (.int 5))])) (mExpr (mCall D_counts_at [.nm 1, .nm 2])) (mIf (mB (mOp (oEq false) [.nm 0, .ex (mC (.int 6))])) (mExpr (mCallP [1, 0] D_counts_at [.nm 2, .nm 1])) (mIf (mB (mOp (oEq false) [.nm 0, .ex (mC (.int 7))])) (mExpr (mCall D_left_begins [.nm 1, .nm 2])) (mIf (mB (mOp (oEq false) [.nm 0, .ex (mC (.int 8))])) (mExpr (mCallP [1, 0] D_left_begins [.nm 2, .nm 1])) (mIf (mB (mOp (oEq false) [.nm 0, .ex (mC (.int 9))])) (mExpr (mCall D_right_begins [.nm 1, .nm 2])) (mIf (mB (mOp (oEq false) [.nm 0, .ex (mC (.int 10))])) (mExpr (mCallP [1, 0] D_right_begins [.nm 2, .nm 1])) (mExpr (mCall D_halves_of [.nm 1]))))))))))))) (fun xx => mSeq (mIf (mTAnd (mB (mXi xIs_NotUsable xx)) (mTAnd (mB (mXi xIs_CodeError xx)) (mTNot (mB (mXi xIs_TooMany xx))))) (mRet (mAll oTup [.ex (mXf xKnown "word" xx), .ex (mXf xKnown "at" xx)])) (mPass))
  (mRet (mC .non))))
  (mRet (mAll oTup []))
def D__law_told : List O → FR := fnD [0, 1, 2] 4 m__law_told
theorem sc__law_told : FnScope ["_law_which", "_law_sizes", "_law_one", "e"] ["_law_which", "_law_sizes", "_law_one"] (defScope s__law_told) := ⟨rfl, rfl, rfl, by decide +kernel, rfl, by decide +kernel, by decide +kernel⟩
theorem ok__law_told {P : Program} {w : World} {K : PySem.W.Frag} {mg : Str → Option Value} {base : Heap} {ad : Nat → Addr} {fdn : Nat → FuncData} (T : Txt K mg ad fdn) : FnOk P w K mg base (L2N.CX P w) 9 (ad 46) (fdn 46) ["_law_which", "_law_sizes", "_law_one"] (FP K mg 3 D__law_told) := by
  refine ok_def [0, 1, 2] T.F__law_told sc__law_told fun cdv A outer s H E hr => ?_
  have nd := sc__law_told.nd
  have tk := L2N.takes_of (X := cxOf (L2N.CX P w) P w K mg base ["_law_which", "_law_sizes", "_law_one", "e"] "_law_told" (defScope s__law_told) (ad 46) cdv A outer s H E) rfl rfl rfl rfl
  have po := passes_of (X := cxOf (L2N.CX P w) P w K mg base ["_law_which", "_law_sizes", "_law_one", "e"] "_law_told" (defScope s__law_told) (ad 46) cdv A outer s H E) rfl
  exact (dss_cons (ds_try (nl := [0, 1, 2]) (i := 3) rfl rfl nd rfl rfl ⟨rfl, by decide, .inl T.mC_StoodError⟩ tk (by decide) T.cat_StoodError (fun _ pn xe tk po => (dss_one (ds_if (dt_cmp (op_eqD hr.units) s_eq (dk_nm 0) (dk_ex de_int)) (dss_one (ds_expr (de_call (ok_halves_of T) (hr.mono (by decide)) T.m_halves_of T.F_halves_of.kp T.b_halves_of tk (da_cons (dk_nm 1) da_nil)))) (dss_one (ds_if (dt_cmp (op_eqD hr.units) s_eq (dk_nm 0) (dk_ex de_int)) (dss_one (ds_expr (de_call (ok_right_comes T) (hr.mono (by decide)) T.m_right_comes T.F_right_comes.kp T.b_right_comes tk (da_cons (dk_nm 1) (da_cons (dk_nm 2) da_nil))))) (dss_one (ds_if (dt_cmp (op_eqD hr.units) s_eq (dk_nm 0) (dk_ex de_int)) (dss_one (ds_expr (de_callKWP (ok_right_comes T) (hr.mono (by decide)) T.m_right_comes T.F_right_comes.kp T.kp_right_comes_10 tk (dkw_cons (dk_nm 2) (dkw_cons (dk_nm 1) dkw_nil)) rfl (by intro vs hl; match vs, hl with | [_, _], _ => rfl)))) (dss_one (ds_if (dt_cmp (op_eqD hr.units) s_eq (dk_nm 0) (dk_ex de_int)) (dss_one (ds_expr (de_call (ok_rights_ahead T) (hr.mono (by decide)) T.m_rights_ahead T.F_rights_ahead.kp T.b_rights_ahead tk (da_cons (dk_nm 1) (da_cons (dk_nm 2) da_nil))))) (dss_one (ds_if (dt_cmp (op_eqD hr.units) s_eq (dk_nm 0) (dk_ex de_int)) (dss_one (ds_expr (de_callKWP (ok_rights_ahead T) (hr.mono (by decide)) T.m_rights_ahead T.F_rights_ahead.kp T.kp_rights_ahead_10 tk (dkw_cons (dk_nm 2) (dkw_cons (dk_nm 1) dkw_nil)) rfl (by intro vs hl; match vs, hl with | [_, _], _ => rfl)))) (dss_one (ds_if (dt_cmp (op_eqD hr.units) s_eq (dk_nm 0) (dk_ex de_int)) (dss_one (ds_expr (de_call (ok_counts_at T) (hr.mono (by decide)) T.m_counts_at T.F_counts_at.kp T.b_counts_at tk (da_cons (dk_nm 1) (da_cons (dk_nm 2) da_nil))))) (dss_one (ds_if (dt_cmp (op_eqD hr.units) s_eq (dk_nm 0) (dk_ex de_int)) (dss_one (ds_expr (de_callKWP (ok_counts_at T) (hr.mono (by decide)) T.m_counts_at T.F_counts_at.kp T.kp_counts_at_10 tk (dkw_cons (dk_nm 2) (dkw_cons (dk_nm 1) dkw_nil)) rfl (by intro vs hl; match vs, hl with | [_, _], _ => rfl)))) (dss_one (ds_if (dt_cmp (op_eqD hr.units) s_eq (dk_nm 0) (dk_ex de_int)) (dss_one (ds_expr (de_call (ok_left_begins T) (hr.mono (by decide)) T.m_left_begins T.F_left_begins.kp T.b_left_begins tk (da_cons (dk_nm 1) (da_cons (dk_nm 2) da_nil))))) (dss_one (ds_if (dt_cmp (op_eqD hr.units) s_eq (dk_nm 0) (dk_ex de_int)) (dss_one (ds_expr (de_callKWP (ok_left_begins T) (hr.mono (by decide)) T.m_left_begins T.F_left_begins.kp T.kp_left_begins_10 tk (dkw_cons (dk_nm 2) (dkw_cons (dk_nm 1) dkw_nil)) rfl (by intro vs hl; match vs, hl with | [_, _], _ => rfl)))) (dss_one (ds_if (dt_cmp (op_eqD hr.units) s_eq (dk_nm 0) (dk_ex de_int)) (dss_one (ds_expr (de_call (ok_right_begins T) (hr.mono (by decide)) T.m_right_begins T.F_right_begins.kp T.b_right_begins tk (da_cons (dk_nm 1) (da_cons (dk_nm 2) da_nil))))) (dss_one (ds_if (dt_cmp (op_eqD hr.units) s_eq (dk_nm 0) (dk_ex de_int)) (dss_one (ds_expr (de_callKWP (ok_right_begins T) (hr.mono (by decide)) T.m_right_begins T.F_right_begins.kp T.kp_right_begins_10 tk (dkw_cons (dk_nm 2) (dkw_cons (dk_nm 1) dkw_nil)) rfl (by intro vs hl; match vs, hl with | [_, _], _ => rfl)))) (dss_one (ds_expr (de_callKW (ok_halves_of T) (hr.mono (by decide)) T.m_halves_of T.F_halves_of.kp T.kw_halves_of tk (dkw_cons (dk_nm 1) dkw_nil))))))))))))))))))))))))))) (fun xx a oe cls d pn hz hf => (dss_cons (ds_if (dt_w (dw_and (dt_val (de_xi hz hf T.b_isinstance T.xi_NotUsable (pe_glob (v := .ref (ad 3)) rfl T.mC_NotUsable rfl) (fun _ h => h))) (dw_and (dt_val (de_xi hz hf T.b_isinstance T.xi_CodeError (pe_glob (v := .ref (ad 2)) rfl T.mC_CodeError rfl) (fun _ h => h))) (dw_and1 (dt_not (dt_val (de_xi hz hf T.b_isinstance T.xi_TooMany (pe_glob (v := .ref (ad 4)) rfl T.mC_TooMany rfl) (fun _ h => h)))))))) (dss_one (ds_ret (de_tup (da_cons (dk_ex (de_xf hz hf T.xf_word)) (da_cons (dk_ex (de_xf hz hf T.xf_at)) da_nil))))) dss_nil)
      (dss_one (ds_ret de_non)))))
      (dss_one (ds_ret (de_tup da_nil))))
/-! _law_refusals -/
def m__law_refusals : MS :=
  mSeq (mSet 2 (mCall D__law_halves [.nm 1]))
  (mSeq (mSet 3 (mOp oSub [.ex (mOp oPlus [.ex (mOp oIx [.nm 2, .ex (mC (.int 0))]), .ex (mOp oIx [.nm 2, .ex (mC (.int 1))])]), .ex (mC (.int 1))]))
  (mSeq (mSet 4 (mAll oTup []))
  (mSeq (mIf (mB (mOp oGt [.ex (mCall D__law_take [.nm 0, .ex (mC (.int 3))]), .ex (mC (.int 0))])) (mSet 4 (mAll oTup [.ex (mOp oPlus [.ex (mC (.int 2)), .ex (mCall D__law_take [.nm 0, .ex (mC (.int 11))])])])) (mPass))
  (mSeq (mSet 5 (mAll oLst [.ex (mAll oTup [.ex (mC (.int 1)), .ex (mC (.str "right")), .ex (mC (.int 1)), .ex (mOp oIx [.nm 2, .ex (mC (.int 1))])]), .ex (mAll oTup [.ex (mC (.int 3)), .ex (mC (.str "left")), .ex (mC (.int 0)), .ex (mOp oIx [.nm 2, .ex (mC (.int 0))])]), .ex (mAll oTup [.ex (mC (.int 5)), .ex (mC (.str "stage")), .ex (mC (.int 0)), .ex (mN 3)])]))
  (mSeq (mSet 5 (mOp oPlus [.nm 5, .ex (mAll oLst [.ex (mAll oTup [.ex (mC (.int 7)), .ex (mC (.str "left")), .ex (mC (.int 0)), .ex (mOp oIx [.nm 2, .ex (mC (.int 0))])]), .ex (mAll oTup [.ex (mC (.int 9)), .ex (mC (.str "right")), .ex (mC (.int 0)), .ex (mOp oIx [.nm 2, .ex (mC (.int 1))])])])]))
  (mSeq (mFor (mIt itS (mN 5)) (gT [gN 6, gN 7, gN 8, gN 9]) (mSeq (mSet 10 (mAll oLst [.ex (mOp oPlus [.ex (mOp oPlus [.nm 9, .ex (mC (.int 1))]), .ex (mCall D__law_take [.nm 0, .ex (mC (.int 30))])]), .ex (mC (.bl true)), .ex (mC (.bl false)), .ex (mC .non), .ex (mC (.str "1")), .ex (mAll oTup [.ex (mN 8)]), .ex (mFz (mAll oLst [.ex (mN 8)])), .ex (mOp oPow [.ex (mC (.int 10)), .ex (mC (.int 59))])]))
  (mSeq (mSet 11 (mOp oIx [.nm 10, .ex (mCall D__law_take [.nm 0, .ex (mOp oLen [.nm 10])])]))
  (mSeq (mSet 12 (mOp oPlus [.nm 6, .ex (mCall D__law_take [.nm 0, .ex (mC (.int 2))])]))
  (mSeq (mIf (mTOr (mB (mOp (oEq true) [.ex (mCall D__law_told [.nm 12, .nm 1, .nm 8]), .ex (mAll oTup [])])) (mB (mOp (oEq true) [.ex (mCall D__law_told [.nm 12, .nm 1, .ex (mOp oSub [.nm 9, .ex (mC (.int 1))])]), .ex (mAll oTup [])]))) (mRet (mC (.bl false))) (mPass))
  (mSeq (mFor (mIt itS (mAll oTup [.ex (mOp oSub [.nm 8, .ex (mC (.int 1))]), .ex (mN 9), .ex (mN 11)])) (gN 13) (mIf (mTNot (mB (mCall (D__law_same 4) [.ex (mCall D__law_told [.nm 12, .nm 1, .nm 13]), .ex (mAll oTup [.ex (mN 7), .ex (mOp oNeg [.ex (mC (.int 1))])])]))) (mRet (mC (.bl false))) (mPass)))
  (mSeq (mIf (mTNot (mB (mCall (D__law_same 4) [.ex (mCall D__law_told [.nm 12, .nm 4, .nm 8]), .ex (mAll oTup [.ex (mC (.str "inner")), .ex (mOp oNeg [.ex (mC (.int 1))])])]))) (mRet (mC (.bl false))) (mPass))
  (mIf (mTNot (mB (mCall (D__law_same 4) [.ex (mCall D__law_told [.nm 12, .nm 4, .nm 11]), .ex (mAll oTup [.ex (mC (.str "inner")), .ex (mOp oNeg [.ex (mC (.int 1))])])]))) (mRet (mC (.bl false))) (mPass)))))))))
  (mSeq (mSet 12 (mOp oMul [.ex (mC (.int 11)), .ex (mCall D__law_take [.nm 0, .ex (mC (.int 2))])]))
  (mRet (mAnd (mOp (oEq false) [.ex (mCall D__law_told [.nm 12, .nm 1, .ex (mC (.int 0))]), .ex (mAll oTup [])]) (mCall (D__law_same 4) [.ex (mCall D__law_told [.nm 12, .nm 4, .ex (mC (.int 0))]), .ex (mAll oTup [.ex (mC (.str "inner")), .ex (mOp oNeg [.ex (mC (.int 1))])])]))))))))))
def D__law_refusals : List O → FR := fnD [0, 1] 14 m__law_refusals
theorem sc__law_refusals : FnScope ["_law_pool", "_law_sizes", "_law_halves_here", "_law_held", "_law_short", "_law_rows", "_law_which", "_law_word", "_law_low", "_law_top", "_law_menu", "_law_wrong", "_law_by", "_law_strange"] ["_law_pool", "_law_sizes"] (defScope s__law_refusals) := ⟨rfl, rfl, rfl, by decide +kernel, rfl, by decide +kernel, by decide +kernel⟩
theorem ok__law_refusals {P : Program} {w : World} {K : PySem.W.Frag} {mg : Str → Option Value} {base : Heap} {ad : Nat → Addr} {fdn : Nat → FuncData} (T : Txt K mg ad fdn) : FnOk P w K mg base (L2N.CX P w) 10 (ad 47) (fdn 47) ["_law_pool", "_law_sizes"] (FP K mg 2 D__law_refusals) := by
  refine ok_def [0, 1] T.F__law_refusals sc__law_refusals fun cdv A outer s H E hr => ?_
  have nd := sc__law_refusals.nd
  have tk := L2N.takes_of (X := cxOf (L2N.CX P w) P w K mg base ["_law_pool", "_law_sizes", "_law_halves_here", "_law_held", "_law_short", "_law_rows", "_law_which", "_law_word", "_law_low", "_law_top", "_law_menu", "_law_wrong", "_law_by", "_law_strange"] "_law_refusals" (defScope s__law_refusals) (ad 47) cdv A outer s H E) rfl rfl rfl rfl
  have po := passes_of (X := cxOf (L2N.CX P w) P w K mg base ["_law_pool", "_law_sizes", "_law_halves_here", "_law_held", "_law_short", "_law_rows", "_law_which", "_law_word", "_law_low", "_law_top", "_law_menu", "_law_wrong", "_law_by", "_law_strange"] "_law_refusals" (defScope s__law_refusals) (ad 47) cdv A outer s H E) rfl
  exact (dss_cons (ds_set (i := 2) nd (de_call (ok__law_halves T) (hr.mono (by decide)) T.m__law_halves T.F__law_halves.kp T.b__law_halves tk (da_cons (dk_nm 1) da_nil)))
      (dss_cons (ds_set (i := 3) nd (de_bin op_sub s_sub (dk_ex (de_bin op_plus s_plus (dk_ex (de_ix ix_lt s_ix (dk_nm 2) (dk_ex de_int))) (dk_ex (de_ix ix_lt s_ix (dk_nm 2) (dk_ex de_int))))) (dk_ex de_int)))
      (dss_cons (ds_set (i := 4) nd (de_tup da_nil))
      (dss_cons (ds_if (dt_cmp op_gt s_gt (dk_ex (de_call (ok__law_take T) (hr.mono (by decide)) T.m__law_take T.F__law_take.kp T.b__law_take tk (da_cons (dk_nm 0) (da_cons (dk_ex de_int) da_nil)))) (dk_ex de_int)) (dss_one (ds_set (i := 4) nd (de_tup (da_cons (dk_ex (de_bin op_plus s_plus (dk_ex de_int) (dk_ex (de_call (ok__law_take T) (hr.mono (by decide)) T.m__law_take T.F__law_take.kp T.b__law_take tk (da_cons (dk_nm 0) (da_cons (dk_ex de_int) da_nil)))))) da_nil)))) dss_nil)
      (dss_cons (ds_set (i := 5) nd (de_lst (da_cons (dk_ex (de_tup (da_cons (dk_ex de_int) (da_cons (dk_ex de_str) (da_cons (dk_ex de_int) (da_cons (dk_ex (de_ix ix_lt s_ix (dk_nm 2) (dk_ex de_int))) da_nil)))))) (da_cons (dk_ex (de_tup (da_cons (dk_ex de_int) (da_cons (dk_ex de_str) (da_cons (dk_ex de_int) (da_cons (dk_ex (de_ix ix_lt s_ix (dk_nm 2) (dk_ex de_int))) da_nil)))))) (da_cons (dk_ex (de_tup (da_cons (dk_ex de_int) (da_cons (dk_ex de_str) (da_cons (dk_ex de_int) (da_cons (dk_ex (de_n 3)) da_nil)))))) da_nil)))))
      (dss_cons (ds_set (i := 5) nd (de_bin op_plus s_plus (dk_nm 5) (dk_ex (de_lst (da_cons (dk_ex (de_tup (da_cons (dk_ex de_int) (da_cons (dk_ex de_str) (da_cons (dk_ex de_int) (da_cons (dk_ex (de_ix ix_lt s_ix (dk_nm 2) (dk_ex de_int))) da_nil)))))) (da_cons (dk_ex (de_tup (da_cons (dk_ex de_int) (da_cons (dk_ex de_str) (da_cons (dk_ex de_int) (da_cons (dk_ex (de_ix ix_lt s_ix (dk_nm 2) (dk_ex de_int))) da_nil)))))) da_nil))))))
      (dss_cons (ds_for po rfl (di_seq (de_n 5)) (dg_t rfl (dgs_cons (dg_n (i := 6) nd) (dgs_cons (dg_n (i := 7) nd) (dgs_cons (dg_n (i := 8) nd) (dgs_cons (dg_n (i := 9) nd) dgs_nil))))) (dss_cons (ds_set (i := 10) nd (de_lst (da_cons (dk_ex (de_bin op_plus s_plus (dk_ex (de_bin op_plus s_plus (dk_nm 9) (dk_ex de_int))) (dk_ex (de_call (ok__law_take T) (hr.mono (by decide)) T.m__law_take T.F__law_take.kp T.b__law_take tk (da_cons (dk_nm 0) (da_cons (dk_ex de_int) da_nil)))))) (da_cons (dk_ex de_bl) (da_cons (dk_ex de_bl) (da_cons (dk_ex de_non) (da_cons (dk_ex de_str) (da_cons (dk_ex (de_tup (da_cons (dk_ex (de_n 8)) da_nil))) (da_cons (dk_ex (de_fz (de_lst (da_cons (dk_ex (de_n 8)) da_nil)))) (da_cons (dk_ex (de_bin op_pow s_pow (dk_ex de_int) (dk_ex de_int))) da_nil))))))))))
      (dss_cons (ds_set (i := 11) nd (de_ix ix_lt s_ix (dk_nm 10) (dk_ex (de_call (ok__law_take T) (hr.mono (by decide)) T.m__law_take T.F__law_take.kp T.b__law_take tk (da_cons (dk_nm 0) (da_cons (dk_ex (de_callB call_len_seq s_len T.b_len (da_cons (dk_nm 10) da_nil))) da_nil))))))
      (dss_cons (ds_set (i := 12) nd (de_bin op_plus s_plus (dk_nm 6) (dk_ex (de_call (ok__law_take T) (hr.mono (by decide)) T.m__law_take T.F__law_take.kp T.b__law_take tk (da_cons (dk_nm 0) (da_cons (dk_ex de_int) da_nil))))))
      (dss_cons (ds_if (dt_w (dw_or (dt_cmp (op_neD hr.units) s_ne (dk_ex (de_call (ok__law_told T) (hr.mono (by decide)) T.m__law_told T.F__law_told.kp T.b__law_told tk (da_cons (dk_nm 12) (da_cons (dk_nm 1) (da_cons (dk_nm 8) da_nil))))) (dk_ex (de_tup da_nil))) (dw_or1 (dt_cmp (op_neD hr.units) s_ne (dk_ex (de_call (ok__law_told T) (hr.mono (by decide)) T.m__law_told T.F__law_told.kp T.b__law_told tk (da_cons (dk_nm 12) (da_cons (dk_nm 1) (da_cons (dk_ex (de_bin op_sub s_sub (dk_nm 9) (dk_ex de_int))) da_nil))))) (dk_ex (de_tup da_nil)))))) (dss_one (ds_ret de_bl)) dss_nil)
      (dss_cons (ds_for po rfl (di_seq (de_tup (da_cons (dk_ex (de_bin op_sub s_sub (dk_nm 8) (dk_ex de_int))) (da_cons (dk_ex (de_n 9)) (da_cons (dk_ex (de_n 11)) da_nil))))) (dg_n (i := 13) nd) (dss_one (ds_if (dt_not (dt_val (de_call (ok__law_same T 4) (hr.mono (by decide)) T.m__law_same T.F__law_same.kp T.b__law_same tk (da_cons (dk_ex (de_call (ok__law_told T) (hr.mono (by decide)) T.m__law_told T.F__law_told.kp T.b__law_told tk (da_cons (dk_nm 12) (da_cons (dk_nm 1) (da_cons (dk_nm 13) da_nil))))) (da_cons (dk_ex (de_tup (da_cons (dk_ex (de_n 7)) (da_cons (dk_ex (de_un un_neg s_neg (dk_ex de_int))) da_nil)))) da_nil))))) (dss_one (ds_ret de_bl)) dss_nil)))
      (dss_cons (ds_if (dt_not (dt_val (de_call (ok__law_same T 4) (hr.mono (by decide)) T.m__law_same T.F__law_same.kp T.b__law_same tk (da_cons (dk_ex (de_call (ok__law_told T) (hr.mono (by decide)) T.m__law_told T.F__law_told.kp T.b__law_told tk (da_cons (dk_nm 12) (da_cons (dk_nm 4) (da_cons (dk_nm 8) da_nil))))) (da_cons (dk_ex (de_tup (da_cons (dk_ex de_str) (da_cons (dk_ex (de_un un_neg s_neg (dk_ex de_int))) da_nil)))) da_nil))))) (dss_one (ds_ret de_bl)) dss_nil)
      (dss_one (ds_if (dt_not (dt_val (de_call (ok__law_same T 4) (hr.mono (by decide)) T.m__law_same T.F__law_same.kp T.b__law_same tk (da_cons (dk_ex (de_call (ok__law_told T) (hr.mono (by decide)) T.m__law_told T.F__law_told.kp T.b__law_told tk (da_cons (dk_nm 12) (da_cons (dk_nm 4) (da_cons (dk_nm 11) da_nil))))) (da_cons (dk_ex (de_tup (da_cons (dk_ex de_str) (da_cons (dk_ex (de_un un_neg s_neg (dk_ex de_int))) da_nil)))) da_nil))))) (dss_one (ds_ret de_bl)) dss_nil)))))))))
      (dss_cons (ds_set (i := 12) nd (de_bin op_mulA s_mul (dk_ex de_int) (dk_ex (de_call (ok__law_take T) (hr.mono (by decide)) T.m__law_take T.F__law_take.kp T.b__law_take tk (da_cons (dk_nm 0) (da_cons (dk_ex de_int) da_nil))))))
      (dss_one (ds_ret (de_and (de_cmp (op_eqD hr.units) s_eq (dk_ex (de_call (ok__law_told T) (hr.mono (by decide)) T.m__law_told T.F__law_told.kp T.b__law_told tk (da_cons (dk_nm 12) (da_cons (dk_nm 1) (da_cons (dk_ex de_int) da_nil))))) (dk_ex (de_tup da_nil))) (de_one (de_call (ok__law_same T 4) (hr.mono (by decide)) T.m__law_same T.F__law_same.kp T.b__law_same tk (da_cons (dk_ex (de_call (ok__law_told T) (hr.mono (by decide)) T.m__law_told T.F__law_told.kp T.b__law_told tk (da_cons (dk_nm 12) (da_cons (dk_nm 4) (da_cons (dk_ex de_int) da_nil))))) (da_cons (dk_ex (de_tup (da_cons (dk_ex de_str) (da_cons (dk_ex (de_un un_neg s_neg (dk_ex de_int))) da_nil)))) da_nil)))))))))))))))
/-! law -/
def m_law : MS :=
  mSeq (mSet 1 (mCall D__law_open [.nm 0]))
  (mSeq (mSet 2 (mCall D__law_small_sizes [.nm 1]))
  (mSeq (mIf (mTOr (mTNot (mB (mCall D__law_small [.nm 2]))) (mTNot (mB (mCall D__law_refusals [.nm 1, .nm 2])))) (mRet (mC (.bl false))) (mPass))
  (mSeq (mIf (mTAnd (mB (mOp (oEq false) [.ex (mCall D__law_take [.nm 1, .ex (mC (.int 2))]), .ex (mC (.int 0))])) (mTNot (mB (mCall D__law_wide [.nm 1])))) (mRet (mC (.bl false))) (mPass))
  (mSeq (mSet 3 (mCall D__law_halves [.nm 2]))
  (mSeq (mSet 4 (mCall D__law_walk [.nm 3, .ex (mCall D__law_moments [.nm 3])]))
  (mSeq (mSet 5 (mCall D__law_take [.nm 1, .ex (mOp oLen [.nm 4])]))
  (mRet (mCall (D__law_same 4) [.ex (mCallP [1, 0] D_counts_at [.nm 5, .nm 2]), .ex (mOp oIx [.nm 4, .nm 5])]))))))))
def D_law : List O → FR := fnD [0] 6 m_law
theorem sc_law : FnScope ["_law_script", "_law_pool", "_law_sizes", "_law_halves_here", "_law_walk_here", "_law_again"] ["_law_script"] (defScope s_law) := ⟨rfl, rfl, rfl, by decide +kernel, rfl, by decide +kernel, by decide +kernel⟩
theorem ok_law {P : Program} {w : World} {K : PySem.W.Frag} {mg : Str → Option Value} {base : Heap} {ad : Nat → Addr} {fdn : Nat → FuncData} (T : Txt K mg ad fdn) : FnOk P w K mg base (L2N.CX P w) 11 (ad 48) (fdn 48) ["_law_script"] (FP K mg 1 D_law) := by
  refine ok_def [0] T.F_law sc_law fun cdv A outer s H E hr => ?_
  have nd := sc_law.nd
  have tk := L2N.takes_of (X := cxOf (L2N.CX P w) P w K mg base ["_law_script", "_law_pool", "_law_sizes", "_law_halves_here", "_law_walk_here", "_law_again"] "law" (defScope s_law) (ad 48) cdv A outer s H E) rfl rfl rfl rfl
  have po := passes_of (X := cxOf (L2N.CX P w) P w K mg base ["_law_script", "_law_pool", "_law_sizes", "_law_halves_here", "_law_walk_here", "_law_again"] "law" (defScope s_law) (ad 48) cdv A outer s H E) rfl
  exact (dss_cons (ds_set (i := 1) nd (de_call (ok__law_open T) (hr.mono (by decide)) T.m__law_open T.F__law_open.kp T.b__law_open tk (da_cons (dk_nm 0) da_nil)))
      (dss_cons (ds_set (i := 2) nd (de_call (ok__law_small_sizes T) (hr.mono (by decide)) T.m__law_small_sizes T.F__law_small_sizes.kp T.b__law_small_sizes tk (da_cons (dk_nm 1) da_nil)))
      (dss_cons (ds_if (dt_w (dw_or (dt_not (dt_val (de_call (ok__law_small T) (hr.mono (by decide)) T.m__law_small T.F__law_small.kp T.b__law_small tk (da_cons (dk_nm 2) da_nil)))) (dw_or1 (dt_not (dt_val (de_call (ok__law_refusals T) (hr.mono (by decide)) T.m__law_refusals T.F__law_refusals.kp T.b__law_refusals tk (da_cons (dk_nm 1) (da_cons (dk_nm 2) da_nil)))))))) (dss_one (ds_ret de_bl)) dss_nil)
      (dss_cons (ds_if (dt_w (dw_and (dt_cmp (op_eqD hr.units) s_eq (dk_ex (de_call (ok__law_take T) (hr.mono (by decide)) T.m__law_take T.F__law_take.kp T.b__law_take tk (da_cons (dk_nm 1) (da_cons (dk_ex de_int) da_nil)))) (dk_ex de_int)) (dw_and1 (dt_not (dt_val (de_call (ok__law_wide T) (hr.mono (by decide)) T.m__law_wide T.F__law_wide.kp T.b__law_wide tk (da_cons (dk_nm 1) da_nil))))))) (dss_one (ds_ret de_bl)) dss_nil)
      (dss_cons (ds_set (i := 3) nd (de_call (ok__law_halves T) (hr.mono (by decide)) T.m__law_halves T.F__law_halves.kp T.b__law_halves tk (da_cons (dk_nm 2) da_nil)))
      (dss_cons (ds_set (i := 4) nd (de_call (ok__law_walk T) (hr.mono (by decide)) T.m__law_walk T.F__law_walk.kp T.b__law_walk tk (da_cons (dk_nm 3) (da_cons (dk_ex (de_call (ok__law_moments T) (hr.mono (by decide)) T.m__law_moments T.F__law_moments.kp T.b__law_moments tk (da_cons (dk_nm 3) da_nil))) da_nil))))
      (dss_cons (ds_set (i := 5) nd (de_call (ok__law_take T) (hr.mono (by decide)) T.m__law_take T.F__law_take.kp T.b__law_take tk (da_cons (dk_nm 1) (da_cons (dk_ex (de_callB call_len_seq s_len T.b_len (da_cons (dk_nm 4) da_nil))) da_nil))))
      (dss_one (ds_ret (de_call (ok__law_same T 4) (hr.mono (by decide)) T.m__law_same T.F__law_same.kp T.b__law_same tk (da_cons (dk_ex (de_callKWP (ok_counts_at T) (hr.mono (by decide)) T.m_counts_at T.F_counts_at.kp T.kp_counts_at_10 tk (dkw_cons (dk_nm 5) (dkw_cons (dk_nm 2) dkw_nil)) rfl (by intro vs hl; match vs, hl with | [_, _], _ => rfl))) (da_cons (dk_ex (de_ix ix_lt s_ix (dk_nm 4) (dk_nm 5))) da_nil))))))))))))
end K16
end
section
set_option Elab.async false
set_option linter.all false
set_option maxRecDepth 100000
set_option maxHeartbeats 4000000
/-! Dn25: what worths come to, by simp. -/
namespace Dn
open PySem PySem.Spec L2 L2H
open PyProof.Rows hiding St
section
@[simp] theorem mC_e (x : D) (e : Env) : mC x e = .ok (.d x) e := (rfl)
/-! ints as data -/
def I (ns : List Int) : List D := ns.map D.int
abbrev T (ns : List Int) : O := .d (.tup (I ns))
abbrev L (ns : List Int) : O := .l ((I ns).map O.d)
abbrev F (ns : List Int) : O := .d (.lst (I ns))
abbrev N (i : Int) : O := .d (.int i)
@[simp] theorem I_nil : I [] = [] := (rfl)
@[simp] theorem I_cons (n : Int) (r : List Int) : I (n :: r) = .int n :: I r := (rfl)
@[simp] theorem I_len (ns : List Int) : (I ns).length = ns.length := List.length_map _
@[simp] theorem I_empty (ns : List Int) : (I ns).isEmpty = ns.isEmpty := by cases ns <;> rfl
@[simp] theorem I_get (ns : List Int) (k : Nat) : (I ns)[k]? = ns[k]?.map D.int := List.getElem?_map
@[simp] theorem I_dropLast (ns : List Int) : (I ns).dropLast = I ns.dropLast := (List.map_dropLast).symm
@[simp] theorem I_take (ns : List Int) (k : Nat) : (I ns).take k = I (ns.take k) := List.map_take.symm
@[simp] theorem I_drop (ns : List Int) (k : Nat) : (I ns).drop k = I (ns.drop k) := List.map_drop.symm
@[simp] theorem I_reverse (ns : List Int) : (I ns).reverse = I ns.reverse := List.map_reverse.symm
@[simp] theorem I_app (a b : List Int) : I a ++ I b = I (a ++ b) := List.map_append.symm
@[simp] theorem L_snoc (a : List Int) (i : Int) : (I a).map O.d ++ [N i] = (I (a ++ [i])).map O.d := by simp [I]
def Bs (bs : List Bool) : List D := bs.map D.bl
@[simp] theorem dBools_Bs : ∀ bs : List Bool, dBools (Bs bs) = some bs
  | [] => (rfl)
  | b :: r => by
    show (dBools (Bs r)).map (b :: ·) = _
    rw [dBools_Bs r]
    rfl
@[simp] theorem L_nil : L [] = .l [] := (rfl)
@[simp] theorem L_one (i : Int) : L [i] = .l [.d (.int i)] := (rfl)
@[simp] theorem T_one (i : Int) : T [i] = .d (.tup [.int i]) := (rfl)
@[simp] theorem T_nil : T [] = .d (.tup []) := (rfl)
@[simp] theorem F_nil : F [] = .d (.lst []) := (rfl)
@[simp] theorem dInts_I (ns : List Int) : dInts (I ns) = some ns := dInts_map ns
@[simp] theorem allD_I (ns : List Int) : allD ((I ns).map O.d) = some (I ns) := allD_map _
theorem I_mem {ns : List Int} {x : D} (h : x ∈ I ns) : ∃ i ∈ ns, x = .int i := by
  obtain ⟨i, hi, e⟩ := List.mem_map.mp h
  exact ⟨i, hi, e.symm⟩
/-! the steps of a worth, each a function of what came before -/
def gE (i : Nat) (e : Env) : Option (Option O) → Rs O
  | some (some (.d x)) => .ok (.d x) e
  | some (some (.l os)) => .ok (.d (.lst (frzs os))) (e.set i (some (.d (.lst (frzs os)))))
  | _ => .fail
@[simp] theorem gE_d (i : Nat) (e : Env) (x : D) : gE i e (some (some (.d x))) = .ok (.d x) e := (rfl)
@[simp] theorem gE_l (i : Nat) (e : Env) (os : List O) : gE i e (some (some (.l os))) = .ok (.d (.lst (frzs os))) (e.set i (some (.d (.lst (frzs os))))) := (rfl)
@[simp] theorem mN_e (i : Nat) (e : Env) : mN i e = gE i e e[i]? := by
  unfold mN gE
  try (generalize e[i]? = z; rcases z with _ | (_ | (x | os | xs)) <;> rfl)
def mvE (i : Nat) (e : Env) : Option (Option O) → Rs O
  | some (some (.d x)) => .ok (.d x) e
  | some (some (.l os)) => .ok (.l os) (e.set i none)
  | some (some (.t xs)) => .ok (.t xs) (e.set i none)
  | _ => .fail
@[simp] theorem mvE_d (i : Nat) (e : Env) (x : D) : mvE i e (some (some (.d x))) = .ok (.d x) e := (rfl)
@[simp] theorem mvE_l (i : Nat) (e : Env) (x : List O) : mvE i e (some (some (.l x))) = .ok (.l x) (e.set i none) := (rfl)
@[simp] theorem mvE_t (i : Nat) (e : Env) (x : List D) : mvE i e (some (some (.t x))) = .ok (.t x) (e.set i none) := (rfl)
@[simp] theorem mMv_e (i : Nat) (e : Env) : mMv i e = mvE i e e[i]? := by
  unfold mMv mvE
  try (generalize e[i]? = z; rcases z with _ | (_ | (x | os | xs)) <;> rfl)
def nmK (e : Env) : Option (Option O) → Rs (Option O)
  | some (some _) => .ok none e
  | _ => .fail
@[simp] theorem nmK_s (e : Env) (o : O) : nmK e (some (some o)) = .ok none e := (rfl)
@[simp] theorem evalK_nm (i : Nat) (e : Env) : evalK (.nm i) e = nmK e e[i]? := by
  simp only [evalK, nmK]
  try (generalize e[i]? = z; rcases z with _ | (_ | (x | os | xs)) <;> rfl)
def exK : Rs O → Rs (Option O)
  | .ok o e => .ok (some o) e
  | .exc x e => .exc x e
  | .fail => .fail
@[simp] theorem exK_ok (o : O) (e : Env) : exK (.ok o e) = .ok (some o) e := (rfl)
@[simp] theorem exK_exc (o : Exc) (e : Env) : exK (.exc o e) = .exc o e := (rfl)
@[simp] theorem evalK_ex (m : ME) (e : Env) : evalK (.ex m) e = exK (m e) := by
  simp only [evalK]
  cases m e <;> rfl
@[simp] theorem evalA_nil (e : Env) : evalA [] e = .ok [] e := (rfl)
def snocA (c : Option O) : Rs (List (Option O)) → Rs (List (Option O))
  | .ok cs e => .ok (c :: cs) e
  | .exc x e => .exc x e
  | .fail => .fail
@[simp] theorem snocA_ok (c : Option O) (cs : List (Option O)) (e : Env) : snocA c (.ok cs e) = .ok (c :: cs) e := (rfl)
@[simp] theorem snocA_exc (c : Option O) (x : Exc) (e : Env) : snocA c (.exc x e) = .exc x e := (rfl)
def consA (ks : List AK) : Rs (Option O) → Rs (List (Option O))
  | .ok c e => snocA c (evalA ks e)
  | .exc x e => .exc x e
  | .fail => .fail
@[simp] theorem consA_ok (ks : List AK) (c : Option O) (e : Env) : consA ks (.ok c e) = snocA c (evalA ks e) := (rfl)
@[simp] theorem consA_exc (ks : List AK) (x : Exc) (e : Env) : consA ks (.exc x e) = .exc x e := (rfl)
@[simp] theorem evalA_cons (k : AK) (ks : List AK) (e : Env) : evalA (k :: ks) e = consA ks (evalK k e) := by
  simp only [evalA]
  cases evalK k e with
  | ok c e1 =>
    simp only [consA]
    cases evalA ks e1 <;> rfl
  | _ => rfl
@[simp] theorem resK_nm (i : Nat) (c : Option O) (e : Env) : resK (.nm i) c e = (e[i]?).join := (rfl)
@[simp] theorem resK_ex (m : ME) (c : Option O) (e : Env) : resK (.ex m) c e = c := (rfl)
@[simp] theorem resA_nil (cs : List (Option O)) (e : Env) : resA [] cs e = some [] := (rfl)
def consO : Option O → Option (List O) → Option (List O)
  | some o, some os => some (o :: os)
  | _, _ => none
@[simp] theorem consO_s (o : O) (os : List O) : consO (some o) (some os) = some (o :: os) := (rfl)
@[simp] theorem resA_cons (k : AK) (ks : List AK) (c : Option O) (cs : List (Option O)) (e : Env) : resA (k :: ks) (c :: cs) e = consO (resK k c e) (resA ks cs e) := by
  show (match resK k c e, resA ks cs e with
    | some o, some os => some (o :: os)
    | _, _ => none) = _
  cases resK k c e <;> cases resA ks cs e <;> rfl
@[simp] theorem allS_nil : allS [] = some [] := (rfl)
@[simp] theorem allS_cons (o : O) (r : List (Option O)) : allS (some o :: r) = (allS r).map (o :: ·) := (rfl)
def opO (e : Env) : Option O → Rs O
  | some o => .ok o e
  | none => .fail
@[simp] theorem opO_s (e : Env) (o : O) : opO e (some o) = .ok o e := (rfl)
def opR (op : List O → Option O) (e : Env) : Option (List O) → Rs O
  | some os => opO e (op os)
  | none => .fail
@[simp] theorem opR_s (op : List O → Option O) (e : Env) (os : List O) : opR op e (some os) = opO e (op os) := (rfl)
def opA (op : List O → Option O) (ks : List AK) : Rs (List (Option O)) → Rs O
  | .ok cs e => opR op e (resA ks cs e)
  | .exc x e => .exc x e
  | .fail => .fail
@[simp] theorem opA_ok (op : List O → Option O) (ks : List AK) (cs : List (Option O)) (e : Env) : opA op ks (.ok cs e) = opR op e (resA ks cs e) := (rfl)
@[simp] theorem opA_exc (op : List O → Option O) (ks : List AK) (x : Exc) (e : Env) : opA op ks (.exc x e) = .exc x e := (rfl)
@[simp] theorem mOp_e (op : List O → Option O) (ks : List AK) (env : Env) : mOp op ks env = opA op ks (evalA ks env) := by
  simp only [mOp]
  cases evalA ks env with
  | ok cs e =>
    simp only [opA]
    cases resA ks cs e with
    | none => rfl
    | some os => 
      simp only [opR]
      cases op os <;> rfl
  | _ => rfl
def allA (op : List O → Option O) : Rs (List (Option O)) → Rs O
  | .ok cs e => opR op e (allS cs)
  | .exc x e => .exc x e
  | .fail => .fail
@[simp] theorem allA_ok (op : List O → Option O) (cs : List (Option O)) (e : Env) : allA op (.ok cs e) = opR op e (allS cs) := (rfl)
@[simp] theorem allA_exc (op : List O → Option O) (x : Exc) (e : Env) : allA op (.exc x e) = .exc x e := (rfl)
@[simp] theorem mAll_e (f : List O → Option O) (ks : List AK) (env : Env) : mAll f ks env = allA f (evalA ks env) := by
  simp only [mAll]
  cases evalA ks env with
  | ok cs e =>
    simp only [allA]
    cases allS cs with
    | none => rfl
    | some os =>
      simp only [opR]
      cases f os <;> rfl
  | _ => rfl
@[simp] theorem lendA_nil (cs : List (Option O)) (e : Env) : lendA [] cs e = some ([], e) := (rfl)
def lendN (i : Nat) (ks : List AK) (cs : List (Option O)) (e : Env) : Option (Option O) → Option (List O × Env)
  | some (some (.d x)) => (lendA ks cs e).map fun p => (.d x :: p.1, p.2)
  | some (some (.l l)) => (lendA ks cs (e.set i none)).map fun p => (.l l :: p.1, p.2)
  | _ => none
@[simp] theorem lendN_d (i : Nat) (ks : List AK) (cs : List (Option O)) (e : Env) (x : D) : lendN i ks cs e (some (some (.d x))) = (lendA ks cs e).map fun p => (.d x :: p.1, p.2) := (rfl)
@[simp] theorem lendN_l (i : Nat) (ks : List AK) (cs : List (Option O)) (e : Env) (l : List O) : lendN i ks cs e (some (some (.l l))) = (lendA ks cs (e.set i none)).map fun p => (.l l :: p.1, p.2) := (rfl)
@[simp] theorem lendA_nm (i : Nat) (ks : List AK) (c : Option O) (cs : List (Option O)) (e : Env) : lendA (.nm i :: ks) (c :: cs) e = lendN i ks cs e e[i]? := by
  simp only [lendA, lendN, List.tail_cons]
  try (generalize e[i]? = z; rcases z with _ | (_ | (x | os | xs)) <;> rfl)
@[simp] theorem lendA_ex (m : ME) (ks : List AK) (o : O) (cs : List (Option O)) (e : Env) : lendA (.ex m :: ks) (some o :: cs) e = (lendA ks cs e).map fun p => (o :: p.1, p.2) := (rfl)
@[simp] theorem backA_nil (as e e' : Env) : backA [] as e e' = e' := (rfl)
def backN (i : Nat) (ks : List AK) (a : Option O) (as e e' : Env) : Option (Option O) → Env
  | some (some (.l _)) => match a with
    | some o => backA ks as e (e'.set i (some o))
    | none => backA ks as e e'
  | _ => backA ks as e e'
@[simp] theorem backN_d (i : Nat) (ks : List AK) (a : Option O) (as e e' : Env) (x : D) : backN i ks a as e e' (some (some (.d x))) = backA ks as e e' := (rfl)
@[simp] theorem backN_l (i : Nat) (ks : List AK) (a : O) (as e e' : Env) (x : List O) : backN i ks (some a) as e e' (some (some (.l x))) = backA ks as e (e'.set i (some a)) := (rfl)
@[simp] theorem backA_nm (i : Nat) (ks : List AK) (a : Option O) (as e e' : Env) : backA (.nm i :: ks) (a :: as) e e' = backN i ks a as e e' e[i]? := by
  simp only [backA, backN, List.tail_cons, List.headD_cons]
  try (generalize e[i]? = z; rcases z with _ | (_ | (x | os | xs)) <;> rfl)
@[simp] theorem backA_ex (m : ME) (ks : List AK) (as e e' : Env) : backA (.ex m :: ks) as e e' = backA ks as.tail e e' := (rfl)
def callF (ks : List AK) (e e' : Env) : FR → Rs O
  | .ok o as => .ok o (backA ks as e e')
  | .exc x as => .exc x (backA ks as e e')
  | .fail => .fail
@[simp] theorem callF_ok (ks : List AK) (e e' as : Env) (o : O) : callF ks e e' (.ok o as) = .ok o (backA ks as e e') := (rfl)
@[simp] theorem callF_exc (ks : List AK) (e e' as : Env) (o : Exc) : callF ks e e' (.exc o as) = .exc o (backA ks as e e') := (rfl)
def callL (f : List O → FR) (ks : List AK) (e : Env) : Option (List O × Env) → Rs O
  | some p => callF ks e p.2 (f p.1)
  | none => .fail
@[simp] theorem callL_s (f : List O → FR) (ks : List AK) (e : Env) (p : List O × Env) : callL f ks e (some p) = callF ks e p.2 (f p.1) := (rfl)
def callA (f : List O → FR) (ks : List AK) : Rs (List (Option O)) → Rs O
  | .ok cs e => callL f ks e (lendA ks cs e)
  | .exc x e => .exc x e
  | .fail => .fail
@[simp] theorem callA_ok (f : List O → FR) (ks : List AK) (cs : List (Option O)) (e : Env) : callA f ks (.ok cs e) = callL f ks e (lendA ks cs e) := (rfl)
@[simp] theorem callA_exc (f : List O → FR) (ks : List AK) (x : Exc) (e : Env) : callA f ks (.exc x e) = .exc x e := (rfl)
@[simp] theorem mCall_e (f : List O → FR) (ks : List AK) (env : Env) : mCall f ks env = callA f ks (evalA ks env) := by
  simp only [mCall]
  cases evalA ks env with
  | ok cs e =>
    simp only [callA]
    cases lendA ks cs e with
    | none => rfl
    | some p =>
      obtain ⟨os, e'⟩ := p
      simp only [callL]
      cases f os <;> rfl
  | _ => rfl
@[simp] theorem mPass_e (e : Env) : mPass e = .nx e := (rfl)
def seqE (b : MS) : SR → SR
  | .nx e => b e
  | r => r
@[simp] theorem seqE_nx (b : MS) (e : Env) : seqE b (.nx e) = b e := (rfl)
@[simp] theorem seqE_rt (b : MS) (o : O) (e : Env) : seqE b (.rt o e) = .rt o e := (rfl)
@[simp] theorem seqE_exc (b : MS) (o : Exc) (e : Env) : seqE b (.exc o e) = .exc o e := (rfl)
@[simp] theorem seqE_bk (b : MS) (e : Env) : seqE b (.bk e) = .bk e := (rfl)
@[simp] theorem seqE_ct (b : MS) (e : Env) : seqE b (.ct e) = .ct e := (rfl)
@[simp] theorem mSeq_e (a b : MS) (e : Env) : mSeq a b e = seqE b (a e) := by
  simp only [mSeq]
  cases a e <;> rfl
def setE (i : Nat) : Rs O → SR
  | .ok o e => if i < e.length then .nx (e.set i (some o)) else .fail
  | .exc x e => .exc x e
  | .fail => .fail
@[simp] theorem setE_ok (i : Nat) (o : O) (e : Env) : setE i (.ok o e) = if i < e.length then .nx (e.set i (some o)) else .fail := (rfl)
@[simp] theorem setE_exc (i : Nat) (o : Exc) (e : Env) : setE i (.exc o e) = .exc o e := (rfl)
@[simp] theorem mSet_e (i : Nat) (m : ME) (e : Env) : mSet i m e = setE i (m e) := by
  simp only [mSet]
  cases m e <;> rfl
def retE : Rs O → SR
  | .ok o e => .rt o e
  | .exc x e => .exc x e
  | .fail => .fail
@[simp] theorem retE_ok (o : O) (e : Env) : retE (.ok o e) = .rt o e := (rfl)
@[simp] theorem retE_exc (o : Exc) (e : Env) : retE (.exc o e) = .exc o e := (rfl)
@[simp] theorem mRet_e (m : ME) (e : Env) : mRet m e = retE (m e) := by
  simp only [mRet]
  cases m e <;> rfl
@[simp] theorem mRetN_e (e : Env) : mRetN e = .rt (.d .non) e := (rfl)
def exprE : Rs O → SR
  | .ok _ e => .nx e
  | .exc x e => .exc x e
  | .fail => .fail
@[simp] theorem exprE_ok (o : O) (e : Env) : exprE (.ok o e) = .nx e := (rfl)
@[simp] theorem exprE_exc (o : Exc) (e : Env) : exprE (.exc o e) = .exc o e := (rfl)
@[simp] theorem mExpr_e (m : ME) (e : Env) : mExpr m e = exprE (m e) := by
  simp only [mExpr]
  cases m e <;> rfl
def ifE (a b : MS) : Rs Bool → SR
  | .ok true e => a e
  | .ok false e => b e
  | .exc x e => .exc x e
  | .fail => .fail
@[simp] theorem ifE_t (a b : MS) (e : Env) : ifE a b (.ok true e) = a e := (rfl)
@[simp] theorem ifE_f (a b : MS) (e : Env) : ifE a b (.ok false e) = b e := (rfl)
@[simp] theorem ifE_exc (a b : MS) (x : Exc) (e : Env) : ifE a b (.exc x e) = .exc x e := (rfl)
@[simp] theorem mIf_e (c : Env → Rs Bool) (a b : MS) (e : Env) : mIf c a b e = ifE a b (c e) := by
  simp only [mIf]
  cases c e with
  | ok t e1 => cases t <;> rfl
  | _ => rfl
def ifEE (a b : ME) : Rs Bool → Rs O
  | .ok true e => a e
  | .ok false e => b e
  | .exc x e => .exc x e
  | .fail => .fail
@[simp] theorem ifEE_t (a b : ME) (e : Env) : ifEE a b (.ok true e) = a e := (rfl)
@[simp] theorem ifEE_f (a b : ME) (e : Env) : ifEE a b (.ok false e) = b e := (rfl)
@[simp] theorem mIfE_e (c : Env → Rs Bool) (a b : ME) (e : Env) : mIfE c a b e = ifEE a b (c e) := by
  simp only [mIfE]
  cases c e with
  | ok t e1 => cases t <;> rfl
  | _ => rfl
@[simp] theorem gN_e (i : Nat) (e : Env) (x : D) : gN i e x = if i < e.length then some (e.set i (some (.d x))) else none := (rfl)
@[simp] theorem gT_tup (gs : List MG) (e : Env) (xs : List D) : gT gs e (.tup xs) = gsT gs e xs := (rfl)
@[simp] theorem gsT_nil (e : Env) : gsT [] e [] = some e := (rfl)
def gsB (gs : List MG) (xs : List D) : Option Env → Option Env
  | some e => gsT gs e xs
  | none => none
@[simp] theorem gsB_s (gs : List MG) (xs : List D) (e : Env) : gsB gs xs (some e) = gsT gs e xs := (rfl)
@[simp] theorem gsT_cons (g : MG) (gs : List MG) (e : Env) (x : D) (xs : List D) : gsT (g :: gs) e (x :: xs) = gsB gs xs (g e x) := by
  show (g e x).bind _ = _
  cases g e x <;> rfl
def forE (g : MG) (b : MS) : Rs (List D) → SR
  | .ok xs e => forL g b xs e
  | .exc x e => .exc x e
  | .fail => .fail
@[simp] theorem forE_ok (g : MG) (b : MS) (xs : List D) (e : Env) : forE g b (.ok xs e) = forL g b xs e := (rfl)
@[simp] theorem forE_exc (g : MG) (b : MS) (x : Exc) (e : Env) : forE g b (.exc x e) = .exc x e := (rfl)
@[simp] theorem mFor_e (it : Env → Rs (List D)) (g : MG) (b : MS) (e : Env) : mFor it g b e = forE g b (it e) := by
  simp only [mFor]
  cases it e <;> rfl
@[simp] theorem forL_nil (g : MG) (b : MS) (e : Env) : forL g b [] e = .nx e := (rfl)
def forB (g : MG) (b : MS) (xs : List D) : SR → SR
  | .nx e2 => forL g b xs e2
  | .ct e2 => forL g b xs e2
  | .bk e2 => .nx e2
  | r => r
@[simp] theorem forB_nx (g : MG) (b : MS) (xs : List D) (e : Env) : forB g b xs (.nx e) = forL g b xs e := (rfl)
@[simp] theorem forB_ct (g : MG) (b : MS) (xs : List D) (e : Env) : forB g b xs (.ct e) = forL g b xs e := (rfl)
@[simp] theorem forB_bk (g : MG) (b : MS) (xs : List D) (e : Env) : forB g b xs (.bk e) = .nx e := (rfl)
@[simp] theorem forB_rt (g : MG) (b : MS) (xs : List D) (o : O) (e : Env) : forB g b xs (.rt o e) = .rt o e := (rfl)
@[simp] theorem forB_exc (g : MG) (b : MS) (xs : List D) (o : Exc) (e : Env) : forB g b xs (.exc o e) = .exc o e := (rfl)
def forG (g : MG) (b : MS) (xs : List D) : Option Env → SR
  | some e1 => forB g b xs (b e1)
  | none => .fail
@[simp] theorem forG_s (g : MG) (b : MS) (xs : List D) (e : Env) : forG g b xs (some e) = forB g b xs (b e) := (rfl)
theorem forL_cons (g : MG) (b : MS) (x : D) (xs : List D) (e : Env) : forL g b (x :: xs) e = forG g b xs (g e x) := by
  simp only [forL]
  cases g e x with
  | none => rfl
  | some e1 =>
    simp only [forG]
    cases b e1 <;> rfl
def unpG : Option Env → SR
  | some e => .nx e
  | none => .fail
@[simp] theorem unpG_s (e : Env) : unpG (some e) = .nx e := (rfl)
def unpE (g : MG) : Rs O → SR
  | .ok (.d x) e => unpG (g e x)
  | .ok _ _ => .fail
  | .exc x e => .exc x e
  | .fail => .fail
@[simp] theorem unpE_d (g : MG) (x : D) (e : Env) : unpE g (.ok (.d x) e) = unpG (g e x) := (rfl)
@[simp] theorem unpE_exc (g : MG) (x : Exc) (e : Env) : unpE g (.exc x e) = .exc x e := (rfl)
@[simp] theorem mUnp_e (m : ME) (g : MG) (e : Env) : mUnp m g e = unpE g (m e) := by
  simp only [mUnp]
  cases m e with
  | ok o e1 =>
    cases o with
    | d x =>
      simp only [onE, unpE]
      cases g e1 x <;> rfl
    | _ => rfl
  | _ => rfl
def itB (e : Env) : Option (List D) → Rs (List D)
  | some xs => .ok xs e
  | none => .fail
@[simp] theorem itB_s (e : Env) (xs : List D) : itB e (some xs) = .ok xs e := (rfl)
def itA (f : D → Option (List D)) : Rs O → Rs (List D)
  | .ok o e => itB e (f (frz o))
  | .exc x e => .exc x e
  | .fail => .fail
@[simp] theorem itA_ok (f : D → Option (List D)) (o : O) (e : Env) : itA f (.ok o e) = itB e (f (frz o)) := (rfl)
@[simp] theorem itA_exc (f : D → Option (List D)) (o : Exc) (e : Env) : itA f (.exc o e) = .exc o e := (rfl)
@[simp] theorem mIt_e (f : D → Option (List D)) (m : ME) (e : Env) : mIt f m e = itA f (m e) := by
  simp only [mIt]
  cases m e with
  | ok o e1 =>
    simp only [itA]
    cases f (frz o) <;> rfl
  | _ => rfl
@[simp] theorem itS_tup (xs : List D) : itS (.tup xs) = some xs := (rfl)
@[simp] theorem itS_lst (xs : List D) : itS (.lst xs) = some xs := (rfl)
@[simp] theorem itS_scr (xs : List D) : itS (.scr xs) = some xs := (rfl)
@[simp] theorem itEn_tup (xs : List D) : itEn (.tup xs) = some (numD 0 xs) := (rfl)
@[simp] theorem itEn_lst (xs : List D) : itEn (.lst xs) = some (numD 0 xs) := (rfl)
@[simp] theorem itEn_scr (xs : List D) : itEn (.scr xs) = some (numD 0 xs) := (rfl)
@[simp] theorem frz_d (x : D) : frz (.d x) = x := (rfl)
@[simp] theorem frz_l (os : List O) : frz (.l os) = .lst (frzs os) := (rfl)
@[simp] theorem frz_t (xs : List D) : frz (.t xs) = .tup xs := (rfl)
@[simp] theorem frzs_nil : frzs [] = [] := (rfl)
@[simp] theorem frzs_cons (o : O) (os : List O) : frzs (o :: os) = frz o :: frzs os := (rfl)
@[simp] theorem frzs_map : ∀ xs : List D, frzs (xs.map O.d) = xs
  | [] => rfl
  | x :: r => congrArg (x :: ·) (frzs_map r)
@[simp] theorem asI_int (i : Int) : asI (.d (.int i)) = some i := (rfl)
@[simp] theorem tt2_e (i j : Int) : tt2 i j = true := (rfl)
@[simp] theorem fI2_e (C : Int → Int → Bool) (g : Int → Int → D) (i j : Int) : fI2 C g [.d (.int i), .d (.int j)] = if C i j then some (.d (g i j)) else none := (rfl)
@[simp] theorem oPlus_int (i j : Int) : oPlus [.d (.int i), .d (.int j)] = some (.d (.int (i + j))) := (rfl)
@[simp] theorem oNeg_int (i : Int) : oNeg [.d (.int i)] = some (.d (.int (-i))) := (rfl)
@[simp] theorem op1_e (f : O → Option O) (o : O) : op1 f [o] = f o := (rfl)
@[simp] theorem oIsN_e (neg : Bool) (a : O) : oIsN neg [a, .d .non] = some (.d (.bl (if neg then !isN a else isN a))) := (rfl)
@[simp] theorem isN_non : isN (.d .non) = true := (rfl)
@[simp] theorem isN_bl (b : Bool) : isN (.d (.bl b)) = false := (rfl)
@[simp] theorem isN_int (b : Int) : isN (.d (.int b)) = false := (rfl)
@[simp] theorem isN_str (b : Str) : isN (.d (.str b)) = false := (rfl)
@[simp] theorem isN_tup (b : List D) : isN (.d (.tup b)) = false := (rfl)
@[simp] theorem isN_lst (b : List D) : isN (.d (.lst b)) = false := (rfl)
@[simp] theorem isN_l (b : List O) : isN (.l b) = false := (rfl)
@[simp] theorem isN_t (b : List D) : isN (.t b) = false := (rfl)
def andE (b : ME) : Rs O → Rs O
  | .ok (.d (.bl true)) e => b e
  | .ok (.d (.bl false)) e => .ok (.d (.bl false)) e
  | .ok _ _ => .fail
  | .exc x e => .exc x e
  | .fail => .fail
@[simp] theorem andE_t (b : ME) (e : Env) : andE b (.ok (.d (.bl true)) e) = b e := (rfl)
@[simp] theorem andE_f (b : ME) (e : Env) : andE b (.ok (.d (.bl false)) e) = .ok (.d (.bl false)) e := (rfl)
@[simp] theorem mAnd_e (a b : ME) (e : Env) : mAnd a b e = andE b (a e) := by
  simp only [mAnd, onB]
  cases a e with
  | ok o e1 =>
    cases o with
    | d x =>
      cases x with
      | bl c => cases c <;> rfl
      | _ => rfl
    | _ => rfl
  | _ => rfl
def orE (b : ME) : Rs O → Rs O
  | .ok (.d (.bl true)) e => .ok (.d (.bl true)) e
  | .ok (.d (.bl false)) e => b e
  | .ok _ _ => .fail
  | .exc x e => .exc x e
  | .fail => .fail
@[simp] theorem orE_t (b : ME) (e : Env) : orE b (.ok (.d (.bl true)) e) = .ok (.d (.bl true)) e := (rfl)
@[simp] theorem orE_f (b : ME) (e : Env) : orE b (.ok (.d (.bl false)) e) = b e := (rfl)
@[simp] theorem mOr_e (a b : ME) (e : Env) : mOr a b e = orE b (a e) := by
  simp only [mOr, onB]
  cases a e with
  | ok o e1 =>
    cases o with
    | d x =>
      cases x with
      | bl c => cases c <;> rfl
      | _ => rfl
    | _ => rfl
  | _ => rfl
def notE : Rs O → Rs O
  | .ok (.d (.bl c)) e => .ok (.d (.bl (!c))) e
  | .ok _ _ => .fail
  | .exc x e => .exc x e
  | .fail => .fail
@[simp] theorem notE_b (c : Bool) (e : Env) : notE (.ok (.d (.bl c)) e) = .ok (.d (.bl (!c))) e := (rfl)
@[simp] theorem mNot_e (a : ME) (e : Env) : mNot a e = notE (a e) := by
  simp only [mNot, onB]
  cases a e with
  | ok o e1 =>
    cases o with
    | d x => cases x <;> rfl
    | _ => rfl
  | _ => rfl
def bE : Rs O → Rs Bool
  | .ok (.d (.bl c)) e => .ok c e
  | .ok _ _ => .fail
  | .exc x e => .exc x e
  | .fail => .fail
@[simp] theorem bE_b (c : Bool) (e : Env) : bE (.ok (.d (.bl c)) e) = .ok c e := (rfl)
@[simp] theorem bE_exc (c : Exc) (e : Env) : bE (.exc c e) = .exc c e := (rfl)
@[simp] theorem mB_e (m : ME) (e : Env) : mB m e = bE (m e) := by
  simp only [mB]
  cases m e with
  | ok o e1 =>
    cases o with
    | d x => cases x <;> rfl
    | _ => rfl
  | _ => rfl
def notT : Rs Bool → Rs Bool
  | .ok c e => .ok (!c) e
  | .exc x e => .exc x e
  | .fail => .fail
@[simp] theorem notT_b (c : Bool) (e : Env) : notT (.ok c e) = .ok (!c) e := (rfl)
@[simp] theorem notT_exc (c : Exc) (e : Env) : notT (.exc c e) = .exc c e := (rfl)
@[simp] theorem mTNot_e (m : Env → Rs Bool) (e : Env) : mTNot m e = notT (m e) := by
  simp only [mTNot]
  cases m e <;> rfl
def andT (b : Env → Rs Bool) : Rs Bool → Rs Bool
  | .ok true e => b e
  | .ok false e => .ok false e
  | .exc x e => .exc x e
  | .fail => .fail
@[simp] theorem andT_t (b : Env → Rs Bool) (e : Env) : andT b (.ok true e) = b e := (rfl)
@[simp] theorem andT_f (b : Env → Rs Bool) (e : Env) : andT b (.ok false e) = .ok false e := (rfl)
@[simp] theorem mTAnd_e (a b : Env → Rs Bool) (e : Env) : mTAnd a b e = andT b (a e) := by
  simp only [mTAnd]
  cases a e with
  | ok c e1 => cases c <;> rfl
  | _ => rfl
def orT (b : Env → Rs Bool) : Rs Bool → Rs Bool
  | .ok true e => .ok true e
  | .ok false e => b e
  | .exc x e => .exc x e
  | .fail => .fail
@[simp] theorem orT_t (b : Env → Rs Bool) (e : Env) : orT b (.ok true e) = .ok true e := (rfl)
@[simp] theorem orT_f (b : Env → Rs Bool) (e : Env) : orT b (.ok false e) = b e := (rfl)
@[simp] theorem mTOr_e (a b : Env → Rs Bool) (e : Env) : mTOr a b e = orT b (a e) := by
  simp only [mTOr]
  cases a e with
  | ok c e1 => cases c <;> rfl
  | _ => rfl
def truB (e : Env) : Option Bool → Rs Bool
  | some b => .ok b e
  | none => .fail
@[simp] theorem truB_s (e : Env) (b : Bool) : truB e (some b) = .ok b e := (rfl)
def truR (e : Env) : Option (List O) → Rs Bool
  | some [o] => truB e (truO o)
  | _ => .fail
@[simp] theorem truR_s (e : Env) (o : O) : truR e (some [o]) = truB e (truO o) := (rfl)
def truA (k : AK) : Rs (List (Option O)) → Rs Bool
  | .ok cs e => truR e (resA [k] cs e)
  | .exc x e => .exc x e
  | .fail => .fail
@[simp] theorem truA_ok (k : AK) (cs : List (Option O)) (e : Env) : truA k (.ok cs e) = truR e (resA [k] cs e) := (rfl)
@[simp] theorem mTru_e (k : AK) (env : Env) : mTru k env = truA k (evalA [k] env) := by
  simp only [mTru]
  cases evalA [k] env with
  | ok cs e =>
    simp only [truA]
    split
    · rename_i o h
      rw [h]
      simp only [truR]
      cases truO o <;> rfl
    · rename_i h
      cases q : resA [k] cs e with
      | none => rfl
      | some os =>
        match os with
        | [] => rfl
        | [o] => exact absurd q (h o)
        | _ :: _ :: _ => rfl
  | _ => rfl
@[simp] theorem truO_tup (xs : List D) : truO (.d (.tup xs)) = some (!xs.isEmpty) := (rfl)
@[simp] theorem truO_lst (xs : List D) : truO (.d (.lst xs)) = some (!xs.isEmpty) := (rfl)
@[simp] theorem truO_l (xs : List O) : truO (.l xs) = some (!xs.isEmpty) := (rfl)
@[simp] theorem truO_int (i : Int) : truO (.d (.int i)) = some (i != 0) := (rfl)
@[simp] theorem truO_bl (i : Bool) : truO (.d (.bl i)) = some i := (rfl)
@[simp] theorem truO_non : truO (.d .non) = some false := (rfl)
@[simp] theorem lenO_tup (xs : List D) : lenO (.d (.tup xs)) = some xs.length := (rfl)
@[simp] theorem lenO_lst (xs : List D) : lenO (.d (.lst xs)) = some xs.length := (rfl)
@[simp] theorem lenO_scr (xs : List D) : lenO (.d (.scr xs)) = some xs.length := (rfl)
@[simp] theorem lenO_l (xs : List O) : lenO (.l xs) = some xs.length := (rfl)
@[simp] theorem asIB_int (i : Int) : asIB (.d (.int i)) = some i := (rfl)
@[simp] theorem asIB_bl (b : Bool) : asIB (.d (.bl b)) = some (if b then 1 else 0) := (rfl)
@[simp] theorem toTup_l (xs : List D) : toTup (.l (xs.map O.d)) = some (.d (.tup xs)) := by
  show (allD (xs.map O.d)).map (fun xs => O.d (.tup xs)) = _
  rw [allD_map]
  rfl
@[simp] theorem toTup_lst (xs : List D) : toTup (.d (.lst xs)) = some (.d (.tup xs)) := (rfl)
@[simp] theorem toTup_tup (xs : List D) : toTup (.d (.tup xs)) = some (.d (.tup xs)) := (rfl)
@[simp] theorem toTupN_l (xs : List D) : toTupN (.l (xs.map O.d)) = some (.t xs) := by
  show (allD (xs.map O.d)).map O.t = _
  rw [allD_map]
  rfl
@[simp] theorem toLst_tup (xs : List D) : toLst (.d (.tup xs)) = some (.l (xs.map O.d)) := (rfl)
@[simp] theorem toLst_lst (xs : List D) : toLst (.d (.lst xs)) = some (.l (xs.map O.d)) := (rfl)
@[simp] theorem lstF_l (xs : List D) : lstF (.l (xs.map O.d)) = some xs := allD_map xs
@[simp] theorem lstF_lst (xs : List D) : lstF (.d (.lst xs)) = some xs := (rfl)
@[simp] theorem lstF_tup (xs : List D) : lstF (.d (.tup xs)) = none := (rfl)
@[simp] theorem lstF_t (xs : List D) : lstF (.t xs) = none := (rfl)
@[simp] theorem tupF_tup (xs : List D) : tupF (.d (.tup xs)) = some xs := (rfl)
@[simp] theorem tupF_t (xs : List D) : tupF (.t xs) = some xs := (rfl)
@[simp] theorem tupF_lst (xs : List D) : tupF (.d (.lst xs)) = none := (rfl)
@[simp] theorem tupF_l (xs : List O) : tupF (.l xs) = none := (rfl)
@[simp] theorem tupN_t (xs : List D) : tupN (.t xs) = some xs := (rfl)
@[simp] theorem tupN_d (x : D) : tupN (.d x) = none := (rfl)
@[simp] theorem tupN_l (x : List O) : tupN (.l x) = none := (rfl)
@[simp] theorem seqF_tup (xs : List D) : seqF (.d (.tup xs)) = some xs := (rfl)
@[simp] theorem seqF_t (xs : List D) : seqF (.t xs) = some xs := (rfl)
@[simp] theorem seqF_lst (xs : List D) : seqF (.d (.lst xs)) = some xs := (rfl)
@[simp] theorem seqF_l (xs : List D) : seqF (.l (xs.map O.d)) = some xs := allD_map xs
@[simp] theorem dInts_m (ns : List Int) : dInts (ns.map D.int) = some ns := dInts_map ns
@[simp] theorem dBools_m : ∀ ns : List Bool, dBools (ns.map D.bl) = some ns
  | [] => rfl
  | b :: r => by
    show (dBools (r.map D.bl)).map (b :: ·) = _
    rw [dBools_m r]
    rfl
@[simp] theorem atO_tup (xs : List D) (i : Int) : atO (.d (.tup xs)) i = atI xs i := (rfl)
@[simp] theorem atO_lst (xs : List D) (i : Int) : atO (.d (.lst xs)) i = atI xs i := (rfl)
@[simp] theorem atO_scr (xs : List D) (i : Int) : atO (.d (.scr xs)) i = atI xs i := (rfl)
@[simp] theorem atI_nat {α : Type} (xs : List α) (i : Nat) : atI xs (i : Int) = xs[i]? := by
  unfold atI ixN
  by_cases h : i < xs.length
  · rw [if_pos (by omega), if_pos (by omega)]
    simp
  · rw [if_pos (by omega), if_neg (by omega)]
    simp at h ⊢
    exact h
@[simp] theorem atI_lit {α : Type} (xs : List α) (n : Nat) : atI xs (no_index (OfNat.ofNat n) : Int) = xs[n]? := atI_nat xs n
theorem atI_of {α : Type} {xs : List α} {i : Int} {x : α} (h0 : 0 ≤ i) (h : xs[i.toNat]? = some x) : atI xs i = some x := by
  obtain ⟨n, rfl⟩ := Int.eq_ofNat_of_zero_le h0
  rw [atI_nat]
  simpa using h
@[simp] theorem atO_l (xs : List D) (i : Int) : atO (.l (xs.map O.d)) i = atI xs i := by
  show (match atI (xs.map O.d) i with
    | some (.d x) => some x
    | _ => none) = _
  unfold atI
  rw [List.length_map]
  cases ixN xs.length i with
  | none => rfl
  | some j =>
    show (match (xs.map O.d)[j]? with
      | some (.d x) => some x
      | _ => none) = xs[j]?
    rw [List.getElem?_map]
    cases xs[j]? <;> rfl
@[simp] theorem oIx_e (a : O) (i : Int) : oIx [a, .d (.int i)] = (atO a i).map O.d := (rfl)
@[simp] theorem oTup_e (os : List O) : oTup os = if os.length ≤ line then some (.d (.tup (frzs os))) else none := (rfl)
@[simp] theorem oLst_e (os : List O) : oLst os = if os.length ≤ line then some (.l os) else none := (rfl)
@[simp] theorem line_e : line = 16777216 := (rfl)
def dnE : Rs O → Rs O
  | .ok o e => .ok (dnO o) e
  | r => r
@[simp] theorem dnE_ok (o : O) (e : Env) : dnE (.ok o e) = .ok (dnO o) e := (rfl)
@[simp] theorem dnE_exc (o : Exc) (e : Env) : dnE (.exc o e) = .exc o e := (rfl)
@[simp] theorem mDn_e (m : ME) (env : Env) : mDn m env = dnE (m env) := by
  simp only [mDn]
  cases m env <;> rfl
@[simp] theorem dnO_t (xs : List D) : dnO (.t xs) = .d (.tup xs) := (rfl)
@[simp] theorem dnO_d (x : D) : dnO (.d x) = .d x := (rfl)
@[simp] theorem dnO_l (x : List O) : dnO (.l x) = .l x := (rfl)
def rgB (xs : List D) (e : Env) : Bool → Rs (List D)
  | true => .ok xs e
  | false => .fail
@[simp] theorem rgB_t (xs : List D) (e : Env) : rgB xs e true = .ok xs e := (rfl)
def rg1 (e : Env) : O → Rs (List D)
  | .d (.int n) => rgB (rgD 0 n.toNat) e (rgOk n)
  | _ => .fail
def rg2 (e : Env) : O → O → Rs (List D)
  | .d (.int i), .d (.int j) => rgB (rgD i (j - i).toNat) e (rgOk i && rgOk j)
  | _, _ => .fail
def rgR (e : Env) : Option (List O) → Rs (List D)
  | some [a] => rg1 e a
  | some [a, b] => rg2 e a b
  | _ => .fail
@[simp] theorem rgR_1 (e : Env) (n : Int) : rgR e (some [.d (.int n)]) = rgB (rgD 0 n.toNat) e (rgOk n) := (rfl)
@[simp] theorem rgR_2 (e : Env) (i j : Int) : rgR e (some [.d (.int i), .d (.int j)]) = rgB (rgD i (j - i).toNat) e (rgOk i && rgOk j) := (rfl)
def rgA (ks : List AK) : Rs (List (Option O)) → Rs (List D)
  | .ok cs e => rgR e (resA ks cs e)
  | .exc x e => .exc x e
  | .fail => .fail
@[simp] theorem rgA_ok (ks : List AK) (cs : List (Option O)) (e : Env) : rgA ks (.ok cs e) = rgR e (resA ks cs e) := (rfl)
@[simp] theorem rgA_exc (ks : List AK) (x : Exc) (e : Env) : rgA ks (.exc x e) = .exc x e := (rfl)
@[simp] theorem mRg_e (ks : List AK) (env : Env) : mRg ks env = rgA ks (evalA ks env) := by
  simp only [mRg]
  cases evalA ks env with
  | ok cs e =>
    simp only [rgA]
    cases resA ks cs e with
    | none => rfl
    | some os =>
      match os with
      | [] => rfl
      | [a] =>
        cases a with
        | d x =>
          cases x with
          | int n =>
            simp only [asI, rgR, rg1]
            cases rgOk n <;> rfl
          | _ => rfl
        | _ => rfl
      | [a, b] =>
        cases a with
        | d x =>
          cases x with
          | int n =>
            cases b with
            | d y =>
              cases y with
              | int m =>
                simp only [asI, rgR, rg2]
                cases (rgOk n && rgOk m) <;> rfl
              | _ => rfl
            | _ => rfl
          | _ => rfl
        | _ => rfl
      | _ :: _ :: _ :: _ => rfl
  | _ => rfl
@[simp] theorem rgOk_e (i : Int) : rgOk i = decide (-(2 ^ 62) ≤ i ∧ i < 2 ^ 62) := (rfl)
def compB : Rs (List O) → Rs O
  | .ok acc e => .ok (.l acc) e
  | _ => .fail
@[simp] theorem compB_ok (acc : List O) (e : Env) : compB (.ok acc e) = .ok (.l acc) e := (rfl)
def compA (vs : List Nat) (g : MG) (c : Env → Rs Bool) (m : ME) : Rs (List D) → Rs O
  | .ok xs e => compB (compL vs g c m xs (clr e vs) [])
  | .exc x e => .exc x e
  | .fail => .fail
@[simp] theorem compA_ok (vs : List Nat) (g : MG) (c : Env → Rs Bool) (m : ME) (xs : List D) (e : Env) : compA vs g c m (.ok xs e) = compB (compL vs g c m xs (clr e vs) []) := (rfl)
@[simp] theorem mComp_e (it : Env → Rs (List D)) (vs : List Nat) (g : MG) (c : Env → Rs Bool) (m : ME) (env : Env) : mComp it vs g c m env = compA vs g c m (it env) := by
  simp only [mComp]
  cases it env with
  | ok xs e =>
    simp only [compA]
    cases compL vs g c m xs (clr e vs) [] <;> rfl
  | _ => rfl
@[simp] theorem clr_nil (e : Env) : clr e [] = e := (rfl)
@[simp] theorem clr_cons (e : Env) (v : Nat) (vs : List Nat) : clr e (v :: vs) = (clr e vs).set v none := (rfl)
@[simp] theorem mYes_e (e : Env) : mYes e = .ok true e := (rfl)
@[simp] theorem compL_nil (vs : List Nat) (g : MG) (c : Env → Rs Bool) (m : ME) (e : Env) (acc : List O) : compL vs g c m [] e acc = .ok acc e := (rfl)
def compI (vs : List Nat) (g : MG) (c : Env → Rs Bool) (m : ME) (xs : List D) (acc : List O) : Rs O → Rs (List O)
  | .ok o e3 => if acc.length < 16000000 then compL vs g c m xs (clr e3 vs) (acc ++ [o]) else .fail
  | _ => .fail
@[simp] theorem compI_ok (vs : List Nat) (g : MG) (c : Env → Rs Bool) (m : ME) (xs : List D) (acc : List O) (o : O) (e : Env) : compI vs g c m xs acc (.ok o e) = if acc.length < 16000000 then compL vs g c m xs (clr e vs) (acc ++ [o]) else .fail := (rfl)
def compC (vs : List Nat) (g : MG) (c : Env → Rs Bool) (m : ME) (xs : List D) (acc : List O) : Rs Bool → Rs (List O)
  | .ok true e => compI vs g c m xs acc (m e)
  | .ok false e => compL vs g c m xs (clr e vs) acc
  | _ => .fail
@[simp] theorem compC_t (vs : List Nat) (g : MG) (c : Env → Rs Bool) (m : ME) (xs : List D) (acc : List O) (e : Env) : compC vs g c m xs acc (.ok true e) = compI vs g c m xs acc (m e) := (rfl)
@[simp] theorem compC_f (vs : List Nat) (g : MG) (c : Env → Rs Bool) (m : ME) (xs : List D) (acc : List O) (e : Env) : compC vs g c m xs acc (.ok false e) = compL vs g c m xs (clr e vs) acc := (rfl)
def compG (vs : List Nat) (g : MG) (c : Env → Rs Bool) (m : ME) (xs : List D) (acc : List O) : Option Env → Rs (List O)
  | some e => compC vs g c m xs acc (c e)
  | none => .fail
@[simp] theorem compG_s (vs : List Nat) (g : MG) (c : Env → Rs Bool) (m : ME) (xs : List D) (acc : List O) (e : Env) : compG vs g c m xs acc (some e) = compC vs g c m xs acc (c e) := (rfl)
theorem compL_cons (vs : List Nat) (g : MG) (c : Env → Rs Bool) (m : ME) (x : D) (xs : List D) (e : Env) (acc : List O) : compL vs g c m (x :: xs) e acc = compG vs g c m xs acc (g e x) := by
  simp only [compL]
  cases g e x with
  | none => rfl
  | some e1 =>
    simp only [compG]
    cases c e1 with
    | ok t e2 =>
      cases t with
      | true =>
        simp only [compC]
        cases m e2 <;> rfl
      | false => rfl
    | _ => rfl
/-- a comprehension that changes nothing beside its names -/
theorem compL_pure {vs : List Nat} {g : MG} {c : Env → Rs Bool} {m : ME} {e : Env} (f : D → Option D) : ∀ (xs : List D) (acc : List O),
    (∀ x ∈ xs, ∃ e1, g e x = some e1 ∧ ((∃ o e2 e3, c e1 = .ok true e2 ∧ m e2 = .ok (.d o) e3 ∧ f x = some o ∧ clr e3 vs = e) ∨ ∃ e2, c e1 = .ok false e2 ∧ f x = none ∧ clr e2 vs = e)) →
    acc.length + xs.length ≤ 16000000 → compL vs g c m xs e acc = .ok (acc ++ (xs.filterMap f).map O.d) e
  | [], acc, _, _ => by simp
  | x :: xs, acc, h, hl => by
    rw [List.length_cons] at hl
    rw [compL_cons]
    obtain ⟨e1, h1, h2⟩ := h x List.mem_cons_self
    have hr : ∀ y ∈ xs, _ := fun y hy => h y (List.mem_cons_of_mem _ hy)
    rcases h2 with ⟨o, e2, e3, h2, h3, h4, h5⟩ | ⟨e2, h2, h4, h5⟩
    · simp only [h1, h2, h3, compG_s, compC_t, compI_ok]
      rw [if_pos (by omega), h5, compL_pure f xs (acc ++ [O.d o]) hr (by rw [List.length_append, List.length_singleton]; omega), List.filterMap_cons, h4]
      simp
    · simp only [h1, h2, compG_s, compC_f]
      rw [h5, compL_pure f xs acc hr (by omega), List.filterMap_cons, h4]
theorem compL_map {vs : List Nat} {g : MG} {c : Env → Rs Bool} {m : ME} {e : Env} (f : D → D) (xs : List D)
    (h : ∀ x ∈ xs, ∃ e1 e2 e3, g e x = some e1 ∧ c e1 = .ok true e2 ∧ m e2 = .ok (.d (f x)) e3 ∧ clr e3 vs = e)
    (hl : xs.length ≤ 16000000) : compL vs g c m xs e [] = .ok ((xs.map f).map O.d) e := by
  have := compL_pure (vs := vs) (g := g) (c := c) (m := m) (e := e) (fun x => some (f x)) xs [] (fun x hx => by
    obtain ⟨e1, e2, e3, h1, h2, h3, h4⟩ := h x hx
    exact ⟨e1, h1, .inl ⟨f x, e2, e3, h2, h3, rfl, h4⟩⟩) (by simpa using hl)
  rw [this]
  simp
def raiseR (cls : Str) (ns : List Str) (e : Env) : Option (List O) → SR
  | some os => .exc ⟨cls, (ns.zip (frzs os)).reverse⟩ e
  | none => .fail
@[simp] theorem raiseR_s (cls : Str) (ns : List Str) (e : Env) (os : List O) : raiseR cls ns e (some os) = .exc ⟨cls, (ns.zip (frzs os)).reverse⟩ e := (rfl)
def raiseA (cls : Str) (ns : List Str) : Rs (List (Option O)) → SR
  | .ok cs e => raiseR cls ns e (allS cs)
  | .exc x e => .exc x e
  | .fail => .fail
@[simp] theorem raiseA_ok (cls : Str) (ns : List Str) (cs : List (Option O)) (e : Env) : raiseA cls ns (.ok cs e) = raiseR cls ns e (allS cs) := (rfl)
@[simp] theorem mRaise_e (cls : Str) (ns : List Str) (ks : List AK) (env : Env) : mRaise cls ns ks env = raiseA cls ns (evalA ks env) := by
  simp only [mRaise]
  cases evalA ks env with
  | ok cs e =>
    simp only [raiseA]
    cases allS cs <;> rfl
  | _ => rfl
@[simp] theorem finE_nx (i : Nat) (e : Env) : finE i (.nx e) = .nx (e.set i none) := (rfl)
@[simp] theorem finE_rt (i : Nat) (o : O) (e : Env) : finE i (.rt o e) = .rt o (e.set i none) := (rfl)
def tryF (i : Nat) : SR → SR
  | .exc _ _ => .fail
  | r => finE i r
@[simp] theorem tryF_nx (i : Nat) (e : Env) : tryF i (.nx e) = .nx (e.set i none) := (rfl)
@[simp] theorem tryF_rt (i : Nat) (o : O) (e : Env) : tryF i (.rt o e) = .rt o (e.set i none) := (rfl)
def tryC (i : Nat) (h : Exc → MS) (x : Exc) (e : Env) : Option Bool → SR
  | some true => if i < e.length then tryF i (h x (e.set i none)) else .fail
  | some false => .exc x e
  | none => .fail
@[simp] theorem tryC_t (i : Nat) (h : Exc → MS) (x : Exc) (e : Env) : tryC i h x e (some true) = if i < e.length then tryF i (h x (e.set i none)) else .fail := (rfl)
@[simp] theorem tryC_f (i : Nat) (h : Exc → MS) (x : Exc) (e : Env) : tryC i h x e (some false) = .exc x e := (rfl)
def tryA (catches : Str → Option Bool) (i : Nat) (h : Exc → MS) : SR → SR
  | .exc x e => tryC i h x e (catches x.cls)
  | r => r
@[simp] theorem tryA_exc (catches : Str → Option Bool) (i : Nat) (h : Exc → MS) (x : Exc) (e : Env) : tryA catches i h (.exc x e) = tryC i h x e (catches x.cls) := (rfl)
@[simp] theorem tryA_nx (catches : Str → Option Bool) (i : Nat) (h : Exc → MS) (e : Env) : tryA catches i h (.nx e) = .nx e := (rfl)
@[simp] theorem tryA_rt (catches : Str → Option Bool) (i : Nat) (h : Exc → MS) (o : O) (e : Env) : tryA catches i h (.rt o e) = .rt o e := (rfl)
@[simp] theorem mTry_e (catches : Str → Option Bool) (i : Nat) (b : MS) (h : Exc → MS) (env : Env) : mTry catches i b h env = tryA catches i h (b env) := by
  simp only [mTry]
  cases b env with
  | exc x e =>
    simp only [tryA]
    cases catches x.cls with
    | none => rfl
    | some c =>
      cases c with
      | false => rfl
      | true =>
        simp only [tryC]
        split
        · cases h x (e.set i none) <;> rfl
        · rfl
  | _ => rfl
def xfE (env : Env) : Bool → Option D → Rs O
  | true, some d => .ok (.d d) env
  | _, _ => .fail
@[simp] theorem xfE_t (env : Env) (d : D) : xfE env true (some d) = .ok (.d d) env := (rfl)
@[simp] theorem mXf_e (known : Str → Bool) (n : Str) (x : Exc) (env : Env) : mXf known n x env = xfE env (known x.cls) (x.fs.lookup n) := by
  simp only [mXf]
  cases known x.cls <;> cases x.fs.lookup n <;> rfl
def xiE (env : Env) : Option Bool → Rs O
  | some b => .ok (.d (.bl b)) env
  | none => .fail
@[simp] theorem xiE_s (env : Env) (b : Bool) : xiE env (some b) = .ok (.d (.bl b)) env := (rfl)
@[simp] theorem mXi_e (ans : Str → Option Bool) (x : Exc) (env : Env) : mXi ans x env = xiE env (ans x.cls) := by
  simp only [mXi]
  cases ans x.cls <;> rfl
def mutC (i : Nat) (e : Env) : Option (O × List O) → Rs O
  | some p => .ok p.1 (e.set i (some (.l p.2)))
  | none => .fail
@[simp] theorem mutC_s (i : Nat) (e : Env) (p : O × List O) : mutC i e (some p) = .ok p.1 (e.set i (some (.l p.2))) := (rfl)
def mutB (i : Nat) (f : List O → List O → Option (O × List O)) (e : Env) : Option (List O) → Option (Option O) → Rs O
  | some as, some (some (.l os)) => mutC i e (f os as)
  | _, _ => .fail
@[simp] theorem mutB_s (i : Nat) (f : List O → List O → Option (O × List O)) (e : Env) (as os : List O) : mutB i f e (some as) (some (some (.l os))) = mutC i e (f os as) := (rfl)
def mutA (i : Nat) (f : List O → List O → Option (O × List O)) : Rs (List (Option O)) → Rs O
  | .ok cs e => mutB i f e (allS cs) e[i]?
  | .exc x e => .exc x e
  | .fail => .fail
@[simp] theorem mutA_ok (i : Nat) (f : List O → List O → Option (O × List O)) (cs : List (Option O)) (e : Env) : mutA i f (.ok cs e) = mutB i f e (allS cs) e[i]? := (rfl)
def mutE (i : Nat) (f : List O → List O → Option (O × List O)) (ks : List AK) (env : Env) : Option (Option O) → Rs O
  | some (some (.l _)) => mutA i f (evalA ks env)
  | _ => .fail
@[simp] theorem mutE_l (i : Nat) (f : List O → List O → Option (O × List O)) (ks : List AK) (env : Env) (os : List O) : mutE i f ks env (some (some (.l os))) = mutA i f (evalA ks env) := (rfl)
@[simp] theorem mMut_e (i : Nat) (f : List O → List O → Option (O × List O)) (ks : List AK) (env : Env) : mMut i f ks env = mutE i f ks env env[i]? := by
  simp only [mMut]
  generalize env[i]? = z
  rcases z with _ | (_ | (x | os | xs)) <;> try rfl
  simp only [mutE]
  cases evalA ks env with
  | ok cs e =>
    simp only [mutA]
    generalize e[i]? = y
    generalize allS cs = w
    rcases w with _ | as <;> rcases y with _ | (_ | (x | os2 | xs)) <;> try rfl
    simp only [mutB]
    cases f os2 as <;> rfl
  | _ => rfl
@[simp] theorem fApp_e (os : List O) (a : O) : fApp os [a] = if os.length < 16000000 then some (.d .non, os ++ [a]) else none := (rfl)
def rvB (f : List D → O) (e : Env) : Option (List D) → Rs O
  | some xs => .ok (f xs.reverse) e
  | none => .fail
@[simp] theorem rvB_s (f : List D → O) (e : Env) (xs : List D) : rvB f e (some xs) = .ok (f xs.reverse) e := (rfl)
def rvE (f : List D → O) : Rs O → Rs O
  | .ok o e => rvB f e (seqF o)
  | .exc x e => .exc x e
  | .fail => .fail
@[simp] theorem rvE_ok (f : List D → O) (o : O) (e : Env) : rvE f (.ok o e) = rvB f e (seqF o) := (rfl)
@[simp] theorem mRv_e (f : List D → O) (m : ME) (env : Env) : mRv f m env = rvE f (m env) := by
  simp only [mRv]
  cases m env with
  | ok o e =>
    simp only [rvE]
    cases seqF o <;> rfl
  | _ => rfl
@[simp] theorem mtupleRev_e (m : ME) : mtupleRev m = mRv (fun xs => .d (.tup xs)) m := (rfl)
@[simp] theorem mlistRev_e (m : ME) : mlistRev m = mRv (fun xs => .l (xs.map O.d)) m := (rfl)
def lrB (n : Int) (e : Env) : Bool → Rs O
  | true => .ok (.l ((rgD 0 n.toNat).map O.d)) e
  | false => .fail
@[simp] theorem lrB_t (n : Int) (e : Env) : lrB n e true = .ok (.l ((rgD 0 n.toNat).map O.d)) e := (rfl)
def lrE : Rs O → Rs O
  | .ok (.d (.int n)) e => lrB n e (rgOk n && decide (n.toNat ≤ line))
  | .ok _ _ => .fail
  | .exc x e => .exc x e
  | .fail => .fail
@[simp] theorem lrE_ok (n : Int) (e : Env) : lrE (.ok (.d (.int n)) e) = lrB n e (rgOk n && decide (n.toNat ≤ line)) := (rfl)
@[simp] theorem mlistRg_e (m : ME) (env : Env) : mlistRg m env = lrE (m env) := by
  simp only [mlistRg]
  cases m env with
  | ok o e =>
    cases o with
    | d x =>
      cases x with
      | int n =>
        simp only [asI, lrE]
        cases (rgOk n && decide (n.toNat ≤ line)) <;> rfl
      | _ => rfl
    | _ => rfl
  | _ => rfl
def altE (m2 : ME) (env : Env) : Rs O → Rs O
  | .fail => m2 env
  | r => r
@[simp] theorem altE_ok (m2 : ME) (env : Env) (o : O) (e : Env) : altE m2 env (.ok o e) = .ok o e := (rfl)
@[simp] theorem altE_exc (m2 : ME) (env : Env) (o : Exc) (e : Env) : altE m2 env (.exc o e) = .exc o e := (rfl)
@[simp] theorem altE_fail (m2 : ME) (env : Env) : altE m2 env .fail = m2 env := (rfl)
@[simp] theorem mAlt_e (m1 m2 : ME) (env : Env) : mAlt m1 m2 env = altE m2 env (m1 env) := by
  simp only [mAlt]
  cases m1 env <;> rfl
def lookB (f : List O → Option O) (k : AK) (ks : List AK) (c : Option O) : Rs (List (Option O)) → Rs O
  | .ok cs e2 => opR f e2 (resA (k :: ks) (c :: cs) e2)
  | .exc x e => .exc x e
  | .fail => .fail
@[simp] theorem lookB_ok (f : List O → Option O) (k : AK) (ks : List AK) (c : Option O) (cs : List (Option O)) (e : Env) : lookB f k ks c (.ok cs e) = opR f e (resA (k :: ks) (c :: cs) e) := (rfl)
def lookG (f : List O → Option O) (k : AK) (ks : List AK) (c : Option O) (e : Env) : Option (List D) → Rs O
  | some _ => lookB f k ks c (evalA ks e)
  | none => .fail
@[simp] theorem lookG_s (f : List O → Option O) (k : AK) (ks : List AK) (c : Option O) (e : Env) (xs : List D) : lookG f k ks c e (some xs) = lookB f k ks c (evalA ks e) := (rfl)
@[simp] theorem lookG_n (f : List O → Option O) (k : AK) (ks : List AK) (c : Option O) (e : Env) : lookG f k ks c e none = .fail := (rfl)
def lookA (g : O → Option (List D)) (f : List O → Option O) (k : AK) (ks : List AK) : Rs (Option O) → Rs O
  | .ok c e => lookG f k ks c e ((resK k c e).bind g)
  | .exc x e => .exc x e
  | .fail => .fail
@[simp] theorem lookA_ok (g : O → Option (List D)) (f : List O → Option O) (k : AK) (ks : List AK) (c : Option O) (e : Env) : lookA g f k ks (.ok c e) = lookG f k ks c e ((resK k c e).bind g) := (rfl)
@[simp] theorem mLookG_e (g : O → Option (List D)) (f : List O → Option O) (k : AK) (ks : List AK) (env : Env) : mLookG g f k ks env = lookA g f k ks (evalK k env) := by
  simp only [mLookG]
  cases evalK k env with
  | ok c e =>
    simp only [lookA]
    cases (resK k c e).bind g with
    | none => rfl
    | some xs =>
      simp only [lookG]
      cases evalA ks e with
      | ok cs e2 =>
        simp only [lookB]
        cases resA (k :: ks) (c :: cs) e2 with
        | none => rfl
        | some os =>
          simp only [opR]
          cases f os <;> rfl
      | _ => rfl
  | _ => rfl
@[simp] theorem mPart_none (e : Env) : mPart none e = .ok none e := (rfl)
def ptE : Rs O → Rs (Option Int)
  | .ok (.d (.int i)) e => .ok (some i) e
  | .ok _ _ => .fail
  | .exc x e => .exc x e
  | .fail => .fail
@[simp] theorem ptE_ok (i : Int) (e : Env) : ptE (.ok (.d (.int i)) e) = .ok (some i) e := (rfl)
@[simp] theorem mPart_some (m : ME) (e : Env) : mPart (some m) e = ptE (m e) := by
  simp only [mPart]
  cases m e with
  | ok o e1 =>
    cases o with
    | d x => cases x <;> rfl
    | _ => rfl
  | _ => rfl
@[simp] theorem sliceO_tup (xs : List D) (lo hi : Option Int) : sliceO (.d (.tup xs)) lo hi = some (.d (.tup (cutD xs lo hi))) := (rfl)
theorem cutD_hd (xs : List D) (k : Nat) : cutD xs none (some (k : Int)) = xs.take k := by
  unfold cutD
  rw [HT.sIx_none, HT.sIx_nat, List.drop_zero, Nat.sub_zero]
  by_cases h : k ≤ xs.length
  · rw [Nat.min_eq_left h]
  · rw [Nat.min_eq_right (by omega), List.take_of_length_le (Nat.le_refl _), List.take_of_length_le (by omega)]
def slO (l h : Option Int) (e : Env) : Option (List O) → Rs O
  | some [o] => opO e (sliceO o l h)
  | _ => .fail
@[simp] theorem slO_s (l h : Option Int) (e : Env) (o : O) : slO l h e (some [o]) = opO e (sliceO o l h) := (rfl)
def slH (k : AK) (cs : List (Option O)) (l : Option Int) : Rs (Option Int) → Rs O
  | .ok h e => slO l h e (resA [k] cs e)
  | .exc x e => .exc x e
  | .fail => .fail
@[simp] theorem slH_ok (k : AK) (cs : List (Option O)) (l h : Option Int) (e : Env) : slH k cs l (.ok h e) = slO l h e (resA [k] cs e) := (rfl)
def slL (k : AK) (hi : Option ME) (cs : List (Option O)) : Rs (Option Int) → Rs O
  | .ok l e => slH k cs l (mPart hi e)
  | .exc x e => .exc x e
  | .fail => .fail
@[simp] theorem slL_ok (k : AK) (hi : Option ME) (cs : List (Option O)) (l : Option Int) (e : Env) : slL k hi cs (.ok l e) = slH k cs l (mPart hi e) := (rfl)
def slA (k : AK) (lo hi : Option ME) : Rs (List (Option O)) → Rs O
  | .ok cs e => slL k hi cs (mPart lo e)
  | .exc x e => .exc x e
  | .fail => .fail
@[simp] theorem slA_ok (k : AK) (lo hi : Option ME) (cs : List (Option O)) (e : Env) : slA k lo hi (.ok cs e) = slL k hi cs (mPart lo e) := (rfl)
@[simp] theorem mSlice_e (k : AK) (lo hi : Option ME) (env : Env) : mSlice k lo hi env = slA k lo hi (evalA [k] env) := by
  simp only [mSlice]
  cases evalA [k] env with
  | ok cs e =>
    simp only [slA]
    cases mPart lo e with
    | ok l e1 =>
      simp only [slL]
      cases mPart hi e1 with
      | ok h e2 =>
        simp only [slH]
        split
        · rename_i o q
          rw [q]
          simp only [slO]
          cases sliceO o l h <;> rfl
        · rename_i q
          unfold slO
          split
          · rename_i q2
            exact absurd q2 (q _)
          · rfl
      | _ => rfl
    | _ => rfl
  | _ => rfl
@[simp] theorem tyN_non : tyN (.d .non) = "NoneType" := (rfl)
@[simp] theorem tyN_bl (x : Bool) : tyN (.d (.bl x)) = "bool" := (rfl)
@[simp] theorem tyN_int (x : Int) : tyN (.d (.int x)) = "int" := (rfl)
@[simp] theorem tyN_str (x : Str) : tyN (.d (.str x)) = "str" := (rfl)
@[simp] theorem tyN_tup (x : List D) : tyN (.d (.tup x)) = "tuple" := (rfl)
@[simp] theorem tyN_lst (x : List D) : tyN (.d (.lst x)) = "list" := (rfl)
@[simp] theorem tyN_l (x : List O) : tyN (.l x) = "list" := (rfl)
@[simp] theorem oIsi_e (T : String) (a : O) : oIsi T [a] = (kitB (tyN a) T).map fun b => .d (.bl b) := (rfl)
def whB (c : Env → Rs Bool) (b : MS) (n : Nat) : SR → SR
  | .nx e2 => loopW c b n e2
  | .ct e2 => loopW c b n e2
  | .bk e2 => .nx e2
  | r => r
@[simp] theorem whB_nx (c : Env → Rs Bool) (b : MS) (n : Nat) (e : Env) : whB c b n (.nx e) = loopW c b n e := (rfl)
@[simp] theorem whB_rt (c : Env → Rs Bool) (b : MS) (n : Nat) (o : O) (e : Env) : whB c b n (.rt o e) = .rt o e := (rfl)
@[simp] theorem whB_exc (c : Env → Rs Bool) (b : MS) (n : Nat) (o : Exc) (e : Env) : whB c b n (.exc o e) = .exc o e := (rfl)
def whC (c : Env → Rs Bool) (b : MS) (n : Nat) : Rs Bool → SR
  | .ok true e => whB c b n (b e)
  | .ok false e => .nx e
  | .exc x e => .exc x e
  | .fail => .fail
@[simp] theorem whC_t (c : Env → Rs Bool) (b : MS) (n : Nat) (e : Env) : whC c b n (.ok true e) = whB c b n (b e) := (rfl)
@[simp] theorem whC_f (c : Env → Rs Bool) (b : MS) (n : Nat) (e : Env) : whC c b n (.ok false e) = .nx e := (rfl)
@[simp] theorem mWhile_e (fuel : Env → Nat) (c : Env → Rs Bool) (b : MS) (e : Env) : mWhile fuel c b e = loopW c b (fuel e) e := (rfl)
theorem loopW_succ (c : Env → Rs Bool) (b : MS) (n : Nat) (e : Env) : loopW c b (n + 1) e = whC c b n (c e) := by
  simp only [loopW]
  cases c e with
  | ok t e1 =>
    cases t with
    | true =>
      simp only [onT, whC]
      show (match b e1 with
        | .nx e2 => loopW c b n e2
        | .ct e2 => loopW c b n e2
        | .bk e2 => .nx e2
        | r => r) = _
      cases b e1 <;> rfl
    | false => rfl
  | _ => rfl
def fnA (np : List Nat) (n : Nat) : SR → FR
  | .nx e => .ok (.d .non) (asOf np n e)
  | .rt o e => .ok o (asOf np n e)
  | .exc x e => .exc x (asOf np n e)
  | _ => .fail
@[simp] theorem fnA_nx (np : List Nat) (n : Nat) (e : Env) : fnA np n (.nx e) = .ok (.d .non) (asOf np n e) := (rfl)
@[simp] theorem fnA_rt (np : List Nat) (n : Nat) (o : O) (e : Env) : fnA np n (.rt o e) = .ok o (asOf np n e) := (rfl)
@[simp] theorem fnA_exc (np : List Nat) (n : Nat) (x : Exc) (e : Env) : fnA np n (.exc x e) = .exc x (asOf np n e) := (rfl)
@[simp] theorem fnD_e (np : List Nat) (len : Nat) (m : MS) (os : List O) : fnD np len m os = fnA np os.length (m (os.map some ++ List.replicate (len - os.length) none)) := by
  simp only [fnD]
  cases m (os.map some ++ List.replicate (len - os.length) none) <;> rfl
@[simp] theorem asOf_1 (np : List Nat) (e : Env) : asOf np 1 e = [if np.contains 0 then (e[0]?).join else none] := (rfl)
@[simp] theorem asOf_2 (np : List Nat) (e : Env) : asOf np 2 e = [if np.contains 0 then (e[0]?).join else none, if np.contains 1 then (e[1]?).join else none] := (rfl)
@[simp] theorem asOf_3 (np : List Nat) (e : Env) : asOf np 3 e = [if np.contains 0 then (e[0]?).join else none, if np.contains 1 then (e[1]?).join else none, if np.contains 2 then (e[2]?).join else none] := (rfl)
@[simp] theorem asOf_4 (np : List Nat) (e : Env) : asOf np 4 e = [if np.contains 0 then (e[0]?).join else none, if np.contains 1 then (e[1]?).join else none, if np.contains 2 then (e[2]?).join else none, if np.contains 3 then (e[3]?).join else none] := (rfl)
@[simp] theorem asOf_5 (np : List Nat) (e : Env) : asOf np 5 e = [if np.contains 0 then (e[0]?).join else none, if np.contains 1 then (e[1]?).join else none, if np.contains 2 then (e[2]?).join else none, if np.contains 3 then (e[3]?).join else none, if np.contains 4 then (e[4]?).join else none] := (rfl)
@[simp] theorem kit_NoneType_bool : kitB "NoneType" "bool" = some false := by decide +kernel
@[simp] theorem kit_NoneType_int : kitB "NoneType" "int" = some false := by decide +kernel
@[simp] theorem kit_NoneType_str : kitB "NoneType" "str" = some false := by decide +kernel
@[simp] theorem kit_NoneType_tuple : kitB "NoneType" "tuple" = some false := by decide +kernel
@[simp] theorem kit_NoneType_list : kitB "NoneType" "list" = some false := by decide +kernel
@[simp] theorem kit_bool_bool : kitB "bool" "bool" = some true := by decide +kernel
@[simp] theorem kit_bool_int : kitB "bool" "int" = some true := by decide +kernel
@[simp] theorem kit_bool_str : kitB "bool" "str" = some false := by decide +kernel
@[simp] theorem kit_bool_tuple : kitB "bool" "tuple" = some false := by decide +kernel
@[simp] theorem kit_bool_list : kitB "bool" "list" = some false := by decide +kernel
@[simp] theorem kit_int_bool : kitB "int" "bool" = some false := by decide +kernel
@[simp] theorem kit_int_int : kitB "int" "int" = some true := by decide +kernel
@[simp] theorem kit_int_str : kitB "int" "str" = some false := by decide +kernel
@[simp] theorem kit_int_tuple : kitB "int" "tuple" = some false := by decide +kernel
@[simp] theorem kit_int_list : kitB "int" "list" = some false := by decide +kernel
@[simp] theorem kit_str_bool : kitB "str" "bool" = some false := by decide +kernel
@[simp] theorem kit_str_int : kitB "str" "int" = some false := by decide +kernel
@[simp] theorem kit_str_str : kitB "str" "str" = some true := by decide +kernel
@[simp] theorem kit_str_tuple : kitB "str" "tuple" = some false := by decide +kernel
@[simp] theorem kit_str_list : kitB "str" "list" = some false := by decide +kernel
@[simp] theorem kit_tuple_bool : kitB "tuple" "bool" = some false := by decide +kernel
@[simp] theorem kit_tuple_int : kitB "tuple" "int" = some false := by decide +kernel
@[simp] theorem kit_tuple_str : kitB "tuple" "str" = some false := by decide +kernel
@[simp] theorem kit_tuple_tuple : kitB "tuple" "tuple" = some true := by decide +kernel
@[simp] theorem kit_tuple_list : kitB "tuple" "list" = some false := by decide +kernel
@[simp] theorem kit_list_bool : kitB "list" "bool" = some false := by decide +kernel
@[simp] theorem kit_list_int : kitB "list" "int" = some false := by decide +kernel
@[simp] theorem kit_list_str : kitB "list" "str" = some false := by decide +kernel
@[simp] theorem kit_list_tuple : kitB "list" "tuple" = some false := by decide +kernel
@[simp] theorem kit_list_list : kitB "list" "list" = some true := by decide +kernel
theorem shaped_int (i : Int) : SeqAt.shaped (pd (.int i)) = true := by
  simp [SeqAt.shaped, pd, PyData.canLay0, PyData.depth]
theorem shaped_bl (i : Bool) : SeqAt.shaped (pd (.bl i)) = true := by
  simp [SeqAt.shaped, pd, PyData.canLay0, PyData.depth]
@[simp] theorem oEq_iF (i j : Int) : oEq false [.d (.int i), .d (.int j)] = some (.d (.bl (decide (i = j)))) := by
  simp only [oEq, frz_d, shaped_int, Bool.and_self, if_true]
  rfl
@[simp] theorem oEq_iT (i j : Int) : oEq true [.d (.int i), .d (.int j)] = some (.d (.bl (!decide (i = j)))) := by
  simp only [oEq, frz_d, shaped_int, Bool.and_self, if_true]
  rfl
@[simp] theorem oEq_bF (i j : Bool) : oEq false [.d (.bl i), .d (.bl j)] = some (.d (.bl (decide (i = j)))) := by
  simp only [oEq, frz_d, shaped_bl, Bool.and_self, if_true]
  cases i <;> cases j <;> rfl
theorem pds_lay : ∀ ns : List Int, PyData.canLayAll0 (pds (I ns)) = true ∧ PyData.depthAll (pds (I ns)) = 0
  | [] => by simp [pds, PyData.canLayAll0, PyData.depthAll]
  | n :: r => by
    have h := pds_lay r
    simp [pds, pd, PyData.canLayAll0, PyData.depthAll, PyData.canLay0, PyData.depth, h]
theorem shaped_I (ns : List Int) : SeqAt.shaped (pd (.lst (I ns))) = true := by
  have h := pds_lay ns
  simp [SeqAt.shaped, pd, PyData.canLay0, PyData.depth, h]
theorem shaped_IT (ns : List Int) : SeqAt.shaped (pd (.tup (I ns))) = true := by
  have h := pds_lay ns
  simp [SeqAt.shaped, pd, PyData.canLay0, PyData.depth, h]
theorem eqv_I : ∀ a b : List Int, PyData.eqvAll (pds (I a)) (pds (I b)) = decide (a = b)
  | [], [] => by simp [pds, PyData.eqvAll]
  | [], _ :: _ => by simp [pds, PyData.eqvAll]
  | _ :: _, [] => by simp [pds, PyData.eqvAll]
  | x :: a, y :: b => by
    simp only [I_cons, pds, pd, PyData.eqvAll, PyData.eqv, eqv_I a b]
    by_cases h : x = y <;> simp [h]
theorem oEq_LL (neg : Bool) (a b : List Int) : oEq neg [L a, L b] = some (.d (.bl (if neg then !decide (a = b) else decide (a = b)))) := by
  simp only [oEq, frz_l, frzs_map, shaped_I, Bool.and_self, if_true]
  simp only [deq, pd, PyData.eqv, eqv_I]
theorem oEq_TT (neg : Bool) (a b : List Int) : oEq neg [T a, T b] = some (.d (.bl (if neg then !decide (a = b) else decide (a = b)))) := by
  simp only [oEq, frz_d, shaped_IT, Bool.and_self, if_true]
  simp only [deq, pd, PyData.eqv, eqv_I]
theorem oEq_str {s : Str} (h : PyData.strOk s = true) : oEq false [.d (.str s), .d (.str s)] = some (.d (.bl true)) := by
  simp [oEq, frz_d, SeqAt.shaped, pd, PyData.canLay0, PyData.depth, deq, PyData.eqv, h]
@[simp] theorem oPlus_dl (a : List D) (b : List O) : oPlus [.d (.lst a), .l b] = match allD b with
  | some ys => if a.length + ys.length ≤ line then some (.l ((a ++ ys).map O.d)) else none
  | none => none := by
  simp only [oPlus, orO, oCatL, lstM]
  cases allD b <;> rfl
@[simp] theorem oPlus_ld (a : List O) (b : List D) : oPlus [.l a, .d (.lst b)] = match allD a with
  | some ys => if ys.length + b.length ≤ line then some (.l ((ys ++ b).map O.d)) else none
  | none => none := by
  simp only [oPlus, orO, oCatL, lstM]
  cases allD a <;> rfl
@[simp] theorem oPlus_ll (a b : List O) : oPlus [.l a, .l b] = match allD a, allD b with
  | some xs, some ys => if xs.length + ys.length ≤ line then some (.l ((xs ++ ys).map O.d)) else none
  | _, _ => none := by
  simp only [oPlus, orO, oCatL, lstM]
  cases allD a <;> cases allD b <;> rfl
@[simp] theorem oPlus_dd (a b : List D) : oPlus [.d (.lst a), .d (.lst b)] = if a.length + b.length ≤ line then some (.l ((a ++ b).map O.d)) else none := (rfl)
@[simp] theorem oPlus_tt (a b : List D) : oPlus [.d (.tup a), .d (.tup b)] = if a.length + b.length ≤ line then some (.d (.tup (a ++ b))) else none := by
  have e : oPlus [.d (.tup a), .d (.tup b)] = match (if a.length + b.length ≤ line then some (.d (.tup (a ++ b))) else none : Option O) with
    | some o => some o
    | none => none := rfl
  rw [e]
  split <;> rename_i h <;> exact h.symm
@[simp] theorem allD_nil : allD [] = some [] := (rfl)
@[simp] theorem oBools_e (f : List Bool → Bool) (a : O) : oBools f [a] = ((lstF a).bind dBools).map fun bs => .d (.bl (f bs)) := (rfl)
@[simp] theorem dBools_nil : dBools [] = some [] := (rfl)
@[simp] theorem dBools_cons (b : Bool) (r : List D) : dBools (.bl b :: r) = (dBools r).map (b :: ·) := (rfl)
@[simp] theorem lstF_nil : lstF (.l []) = some [] := (rfl)
@[simp] theorem lstF_cons (x : D) (r : List O) : lstF (.l (.d x :: r)) = (allD r).map (x :: ·) := (rfl)
theorem atO_l' (os : List O) (xs : List D) (i : Int) (h : os = xs.map O.d) : atO (.l os) i = atI xs i := by
  subst h
  exact atO_l xs i
@[simp] theorem oMinA_T (ns : List Int) : oMinA [T ns] = (fMin ns).map O.d := by simp [oMinA]
@[simp] theorem oMinA_t (ns : List Int) : oMinA [.t (I ns)] = (fMin ns).map O.d := by simp [oMinA]
@[simp] theorem oMinA_L (ns : List Int) : oMinA [L ns] = (fMin ns).map O.d := by simp [oMinA]
@[simp] theorem oMinA_F (ns : List Int) : oMinA [F ns] = (fMin ns).map O.d := by simp [oMinA]
@[simp] theorem oMaxA_T (ns : List Int) : oMaxA [T ns] = (fMax ns).map O.d := by simp [oMaxA]
@[simp] theorem oMaxA_L (ns : List Int) : oMaxA [L ns] = (fMax ns).map O.d := by simp [oMaxA]
@[simp] theorem oMaxA_F (ns : List Int) : oMaxA [F ns] = (fMax ns).map O.d := by simp [oMaxA]
@[simp] theorem allD_cons (x : D) (r : List O) : allD (.d x :: r) = (allD r).map (x :: ·) := (rfl)
@[simp] theorem I_app1 (a : List Int) (i : Int) : I a ++ [.int i] = I (a ++ [i]) := by simp [I]
theorem rgD_zero (n : Nat) : rgD 0 n = (List.range n).map fun (i : Nat) => D.int i := by
  unfold rgD
  congr 1
  funext i
  rw [Int.zero_add]
theorem min_if (a b : Int) : (if b < a then b else a) = min a b := by
  by_cases h : b < a
  · rw [if_pos h, Int.min_eq_right (by omega)]
  · rw [if_neg h, Int.min_eq_left (by omega)]
theorem max_if (a b : Int) : (if a < b then b else a) = max a b := by
  by_cases h : a < b
  · rw [if_pos h, Int.max_eq_right (by omega)]
  · rw [if_neg h, Int.max_eq_left (by omega)]
end
end Dn
end
section
set_option Elab.async false
set_option linter.all false
set_option maxRecDepth 100000
set_option maxHeartbeats 4000000
/-! Dn27: what worths come to, by simp (more). -/
namespace Dn
open PySem PySem.Spec L2 L2H
open PyProof.Rows hiding St
section
def augO (i : Nat) (e : Env) : Option O → SR
  | some z => if i < e.length then .nx (e.set i (some z)) else .fail
  | none => .fail
@[simp] theorem augO_s (i : Nat) (e : Env) (z : O) : augO i e (some z) = if i < e.length then .nx (e.set i (some z)) else .fail := (rfl)
def augE (i : Nat) (f : List O → Option O) (a : Int) : Rs O → SR
  | .ok o e => augO i e (f [.d (.int a), o])
  | .exc x e => .exc x e
  | .fail => .fail
@[simp] theorem augE_ok (i : Nat) (f : List O → Option O) (a : Int) (o : O) (e : Env) : augE i f a (.ok o e) = augO i e (f [.d (.int a), o]) := (rfl)
@[simp] theorem augE_exc (i : Nat) (f : List O → Option O) (a : Int) (o : Exc) (e : Env) : augE i f a (.exc o e) = .exc o e := (rfl)
def augI (i : Nat) (f : List O → Option O) (m : ME) (env : Env) : Option (Option O) → SR
  | some (some (.d (.int a))) => augE i f a (m env)
  | _ => .fail
@[simp] theorem augI_s (i : Nat) (f : List O → Option O) (m : ME) (env : Env) (a : Int) : augI i f m env (some (some (.d (.int a)))) = augE i f a (m env) := (rfl)
@[simp] theorem mAug_e (i : Nat) (f : List O → Option O) (m : ME) (env : Env) : mAug i f m env = augI i f m env env[i]? := by
  simp only [mAug]
  generalize env[i]? = z
  rcases z with _ | (_ | (x | os | xs)) <;> try rfl
  all_goals try (cases x <;> try rfl)
  all_goals try (simp only [augI]; generalize m env = y; cases y <;> try rfl)
  all_goals try (simp only [onE, augE]; generalize f _ = y; cases y <;> rfl)
def cpF (e : Env) : FR → Rs O
  | .ok o _ => .ok o e
  | .exc x _ => .exc x e
  | .fail => .fail
@[simp] theorem cpF_ok (e : Env) (o : O) (as : Env) : cpF e (.ok o as) = .ok o e := (rfl)
@[simp] theorem cpF_exc (e : Env) (o : Exc) (as : Env) : cpF e (.exc o as) = .exc o e := (rfl)
def cpD (π : List Nat) (f : List O → FR) (e : Env) : Option (List D) → Rs O
  | some xs => cpF e (f ((perm π xs).map O.d))
  | none => .fail
@[simp] theorem cpD_s (π : List Nat) (f : List O → FR) (e : Env) (xs : List D) : cpD π f e (some xs) = cpF e (f ((perm π xs).map O.d)) := (rfl)
def cpO (π : List Nat) (f : List O → FR) (e : Env) : Option (List O) → Rs O
  | some os => cpD π f e (dataO os)
  | none => .fail
@[simp] theorem cpO_s (π : List Nat) (f : List O → FR) (e : Env) (os : List O) : cpO π f e (some os) = cpD π f e (dataO os) := (rfl)
def cpA (π : List Nat) (f : List O → FR) (ks : List AK) : Rs (List (Option O)) → Rs O
  | .ok cs e => cpO π f e (resA ks cs e)
  | .exc x e => .exc x e
  | .fail => .fail
@[simp] theorem cpA_ok (π : List Nat) (f : List O → FR) (ks : List AK) (cs : List (Option O)) (e : Env) : cpA π f ks (.ok cs e) = cpO π f e (resA ks cs e) := (rfl)
@[simp] theorem mCallP_e (π : List Nat) (f : List O → FR) (ks : List AK) (env : Env) : mCallP π f ks env = cpA π f ks (evalA ks env) := by
  simp only [mCallP]
  cases evalA ks env with
  | ok cs e =>
    simp only [cpA]
    cases resA ks cs e with
    | none => rfl
    | some os =>
      simp only [cpO]
      cases dataO os with
      | none => rfl
      | some xs =>
        simp only [cpD]
        cases f ((perm π xs).map O.d) <;> rfl
  | _ => rfl
@[simp] theorem dataO_nil : dataO [] = some [] := (rfl)
@[simp] theorem dataO_cons (x : D) (r : List O) : dataO (.d x :: r) = (dataO r).map (x :: ·) := (rfl)
@[simp] theorem perm_nil {α : Type} (xs : List α) : perm [] xs = [] := (rfl)
def permC {α : Type} (π : List Nat) (xs : List α) : Option α → List α
  | some a => a :: perm π xs
  | none => perm π xs
@[simp] theorem permC_s {α : Type} (π : List Nat) (xs : List α) (a : α) : permC π xs (some a) = a :: perm π xs := (rfl)
@[simp] theorem perm_cons {α : Type} (j : Nat) (π : List Nat) (xs : List α) : perm (j :: π) xs = permC π xs xs[j]? := by
  unfold perm
  rw [List.filterMap_cons]
  cases xs[j]? <;> rfl
def fzE : Rs O → Rs O
  | .ok o e => .ok (.d (frz o)) e
  | r => r
@[simp] theorem fzE_ok (o : O) (e : Env) : fzE (.ok o e) = .ok (.d (frz o)) e := (rfl)
@[simp] theorem fzE_exc (o : Exc) (e : Env) : fzE (.exc o e) = .exc o e := (rfl)
@[simp] theorem mFz_e (m : ME) (env : Env) : mFz m env = fzE (m env) := by
  simp only [mFz]
  cases m env <;> rfl
def zipE (e : Env) : Option (List D) → Rs (List D)
  | some xs => .ok xs e
  | none => .fail
@[simp] theorem zipE_s (e : Env) (xs : List D) : zipE e (some xs) = .ok xs e := (rfl)
def zipA : Rs (List (Option O)) → Rs (List D)
  | .ok cs e => zipE e ((allS cs).bind zipO)
  | .exc x e => .exc x e
  | .fail => .fail
@[simp] theorem zipA_ok (cs : List (Option O)) (e : Env) : zipA (.ok cs e) = zipE e ((allS cs).bind zipO) := (rfl)
@[simp] theorem mZip_e (ks : List AK) (env : Env) : mZip ks env = zipA (evalA ks env) := by
  simp only [mZip]
  cases evalA ks env with
  | ok cs e =>
    simp only [zipA]
    cases (allS cs).bind zipO <;> rfl
  | _ => rfl
@[simp] theorem itR_tup (xs : List D) : itR (.tup xs) = some xs.reverse := (rfl)
@[simp] theorem itR_lst (xs : List D) : itR (.lst xs) = some xs.reverse := (rfl)
@[simp] theorem zipD_nil (ys : List D) : zipD [] ys = [] := by cases ys <;> rfl
@[simp] theorem zipD_cons (x y : D) (xs ys : List D) : zipD (x :: xs) (y :: ys) = .tup [x, y] :: zipD xs ys := (rfl)
def putX (i : Nat) (os : List O) (o : O) (e : Env) : Option Nat → SR
  | some n => .nx (e.set i (some (.l (os.set n o))))
  | none => .fail
@[simp] theorem putX_s (i : Nat) (os : List O) (o : O) (e : Env) (n : Nat) : putX i os o e (some n) = .nx (e.set i (some (.l (os.set n o)))) := (rfl)
def putR (i : Nat) (o : O) (e : Env) : Option (List O) → Option (Option O) → SR
  | some [.d (.int j)], some (some (.l os)) => putX i os o e (ixN os.length j)
  | _, _ => .fail
@[simp] theorem putR_s (i : Nat) (o : O) (e : Env) (j : Int) (os : List O) : putR i o e (some [.d (.int j)]) (some (some (.l os))) = putX i os o e (ixN os.length j) := (rfl)
def putK (i : Nat) (k : AK) (o : O) : Rs (Option O) → SR
  | .ok c e2 => putR i o e2 (resA [k] [c] e2) e2[i]?
  | .exc x e => .exc x e
  | .fail => .fail
@[simp] theorem putK_ok (i : Nat) (k : AK) (o : O) (c : Option O) (e : Env) : putK i k o (.ok c e) = putR i o e (resA [k] [c] e) e[i]? := (rfl)
def putL (i : Nat) (k : AK) (o : O) (e : Env) : Option (Option O) → SR
  | some (some (.l _)) => putK i k o (evalK k e)
  | _ => .fail
@[simp] theorem putL_l (i : Nat) (k : AK) (o : O) (e : Env) (os : List O) : putL i k o e (some (some (.l os))) = putK i k o (evalK k e) := (rfl)
def putM (i : Nat) (k : AK) : Rs O → SR
  | .ok o e => putL i k o e e[i]?
  | .exc x e => .exc x e
  | .fail => .fail
@[simp] theorem putM_ok (i : Nat) (k : AK) (o : O) (e : Env) : putM i k (.ok o e) = putL i k o e e[i]? := (rfl)
@[simp] theorem mPut_e (i : Nat) (m : ME) (k : AK) (env : Env) : mPut i m k env = putM i k (m env) := by
  simp only [mPut]
  cases m env with
  | ok o e =>
    simp only [onE, putM]
    generalize e[i]? = z
    rcases z with _ | (_ | (x | os | xs)) <;> try rfl
    simp only [putL]
    cases evalK k e with
    | ok c e2 =>
      simp only [putK]
      generalize resA [k] [c] e2 = r
      generalize e2[i]? = y
      rcases r with _ | (_ | ⟨a, _ | ⟨b, r⟩⟩) <;> rcases y with _ | (_ | (x2 | os2 | xs2)) <;> (try rfl) <;> rcases a with (_ | _ | j | _ | _ | _ | _) | os3 | xs3 <;> (try rfl)
      all_goals (simp only [asI, putR])
      all_goals (generalize ixN _ _ = w; cases w <;> rfl)
    | _ => rfl
  | _ => rfl
theorem ixN_of {n : Nat} {i : Int} (h0 : 0 ≤ i) (h1 : i < n) : ixN n i = some i.toNat := by
  unfold ixN
  rw [if_pos h0, if_pos h1]
@[simp] theorem cMod_e (i j : Int) : cMod i j = decide (0 < j) := (rfl)
@[simp] theorem oAbs_e (i : Int) : oAbs [N i] = some (N (if i < 0 then -i else i)) := (rfl)
theorem cMul_right {i j : Int} (h : -(2 ^ 64) < j ∧ j < 2 ^ 64) : cMul i j = true := by
  unfold cMul
  rw [decide_eq_true h]
  simp
theorem cMul_left {i j : Int} (h : -(2 ^ 64) < i ∧ i < 2 ^ 64) : cMul i j = true := by
  unfold cMul
  rw [decide_eq_true h]
  simp
/-- no number of a law's own is above it -/
def big : Int := ((2 ^ 3000 : Nat) : Int)
theorem log2_big {i : Int} (h0 : -big ≤ i) (h : i ≤ big) : i.natAbs.log2 < 3001 := by
  refine log2_of ?_ (by decide)
  have h4 : 2 ^ 3001 = 2 * 2 ^ 3000 := by rw [Nat.pow_succ]; omega
  have h5 : 0 < 2 ^ 3000 := Nat.two_pow_pos _
  unfold big at h0 h
  omega
theorem cMul_big {i j : Int} (h0 : -big ≤ i) (h : i ≤ big) (g0 : -big ≤ j) (g : j ≤ big) : cMul i j = true := by
  have a := log2_big h0 h
  have b := log2_big g0 g
  unfold cMul
  rw [decide_eq_true (by omega)]
  rfl
theorem cDiv_big {i j : Int} (g0 : 0 < j) (g : j ≤ big) : cDiv i j = true := by
  have b := log2_big (i := j) (by unfold big at *; omega) g
  unfold cDiv
  exact decide_eq_true ⟨g0, by omega⟩
theorem big_pos : 0 < big := by
  have h5 : 0 < 2 ^ 3000 := Nat.two_pow_pos _
  unfold big
  omega
end
end Dn
end
section
set_option autoImplicit false
namespace K12M
/-! plain mathematics of least cuts -/
def prodL : List Int → Int
  | [] => 1
  | x :: r => x * prodL r
def Ok (xs : List Int) : Prop := ∀ x ∈ xs, 2 ≤ x
theorem Ok.tail {x : Int} {xs : List Int} (h : Ok (x :: xs)) : Ok xs := fun y m => h y (List.mem_cons_of_mem _ m)
theorem Ok.head {x : Int} {xs : List Int} (h : Ok (x :: xs)) : 2 ≤ x := h x List.mem_cons_self
theorem Ok.perm {xs ys : List Int} (h : Ok xs) (p : ys.Perm xs) : Ok ys := fun y m => h y (p.mem_iff.mp m)
theorem Ok.left {xs ys : List Int} (h : Ok (xs ++ ys)) : Ok xs := fun y m => h y (List.mem_append_left _ m)
theorem Ok.right {xs ys : List Int} (h : Ok (xs ++ ys)) : Ok ys := fun y m => h y (List.mem_append_right _ m)
theorem prodL_pos : ∀ {xs : List Int}, Ok xs → 1 ≤ prodL xs
  | [], _ => by decide
  | x :: r, h => by
    have h1 := h.head
    have h2 := prodL_pos h.tail
    have : 1 * 1 ≤ x * prodL r := Int.mul_le_mul (by omega) h2 (by decide) (by omega)
    simpa [prodL] using this
theorem prodL_append : ∀ (xs ys : List Int), prodL (xs ++ ys) = prodL xs * prodL ys
  | [], ys => by simp [prodL]
  | x :: r, ys => by
    show x * prodL (r ++ ys) = x * prodL r * prodL ys
    rw [prodL_append r ys, Int.mul_assoc]
theorem prodL_perm {xs ys : List Int} (h : xs.Perm ys) : prodL xs = prodL ys := by
  induction h with
  | nil => rfl
  | cons x _ ih => simp [prodL, ih]
  | swap x y l => simp only [prodL]; rw [← Int.mul_assoc, ← Int.mul_assoc, Int.mul_comm x y]
  | trans _ _ h1 h2 => exact h1.trans h2
theorem prodL_reverse (xs : List Int) : prodL xs.reverse = prodL xs := prodL_perm (List.reverse_perm xs)
theorem prodL_snoc (xs : List Int) (x : Int) : prodL (xs ++ [x]) = prodL xs * x := by rw [prodL_append]; simp [prodL]
/-- the least cut, that ahead of all and behind all among them -/
def vmin (a : Int) : List Int → Int
  | [] => a
  | x :: r => min (a + prodL (x :: r) - 1) (vmin (a * x) r)
def leastZ (xs : List Int) : Int := vmin 1 xs
theorem vmin_mem : ∀ (xs : List Int) (a : Int), ∃ l1 l2, l1 ++ l2 = xs ∧ vmin a xs = a * prodL l1 + prodL l2 - 1
  | [], a => ⟨[], [], rfl, by simp [vmin, prodL]⟩
  | x :: r, a => by
    simp only [vmin]
    by_cases h : a + prodL (x :: r) - 1 ≤ vmin (a * x) r
    · exact ⟨[], x :: r, rfl, by rw [Int.min_eq_left h]; simp [prodL]⟩
    · obtain ⟨l1, l2, e, q⟩ := vmin_mem r (a * x)
      refine ⟨x :: l1, l2, by rw [← e]; rfl, ?_⟩
      rw [Int.min_eq_right (by omega), q]
      simp only [prodL]
      rw [Int.mul_assoc]
theorem vmin_le : ∀ (xs : List Int) (a : Int) (l1 l2 : List Int), l1 ++ l2 = xs → vmin a xs ≤ a * prodL l1 + prodL l2 - 1
  | [], a, l1, l2, h => by
    obtain ⟨rfl, rfl⟩ := List.append_eq_nil_iff.mp h
    simp [vmin, prodL]
  | x :: r, a, [], l2, h => by
    subst h
    simp only [vmin]
    refine Int.le_trans (Int.min_le_left _ _) ?_
    simp [prodL]
  | x :: r, a, y :: l1, l2, h => by
    injection h with h1 h2
    subst h1
    simp only [vmin]
    refine Int.le_trans (Int.min_le_right _ _) ?_
    have := vmin_le r (a * y) l1 l2 h2
    simp only [prodL]
    rw [← Int.mul_assoc]
    exact this
theorem leastZ_mem (xs : List Int) : ∃ l1 l2, l1 ++ l2 = xs ∧ leastZ xs = prodL l1 + prodL l2 - 1 := by
  obtain ⟨l1, l2, h, e⟩ := vmin_mem xs 1
  exact ⟨l1, l2, h, by rw [Int.one_mul] at e; exact e⟩
theorem leastZ_le {xs : List Int} (l1 l2 : List Int) (h : l1 ++ l2 = xs) : leastZ xs ≤ prodL l1 + prodL l2 - 1 := by
  have := vmin_le xs 1 l1 l2 h
  rwa [Int.one_mul] at this
theorem leastZ_eq {xs : List Int} {v : Int} (h1 : ∃ l1 l2, l1 ++ l2 = xs ∧ v = prodL l1 + prodL l2 - 1) (h2 : ∀ l1 l2, l1 ++ l2 = xs → v ≤ prodL l1 + prodL l2 - 1) : v = leastZ xs := by
  obtain ⟨a1, a2, e1, q1⟩ := h1
  obtain ⟨b1, b2, e2, q2⟩ := leastZ_mem xs
  have u1 := leastZ_le a1 a2 e1
  have u2 := h2 b1 b2 e2
  omega
theorem leastZ_reverse (xs : List Int) : leastZ xs.reverse = leastZ xs := by
  refine leastZ_eq ?_ ?_
  · obtain ⟨l1, l2, e, q⟩ := leastZ_mem xs.reverse
    refine ⟨l2.reverse, l1.reverse, by rw [← List.reverse_append, e, List.reverse_reverse], ?_⟩
    rw [prodL_reverse, prodL_reverse, q]
    omega
  · intro l1 l2 e
    have := leastZ_le (xs := xs.reverse) l2.reverse l1.reverse (by rw [← List.reverse_append, e])
    rw [prodL_reverse, prodL_reverse] at this
    omega
theorem mul_diff {D M Y : Int} (h1 : 1 ≤ D) (h2 : M ≤ Y) : M * D + Y ≤ M + D * Y := by
  have h : 0 ≤ (D - 1) * (Y - M) := Int.mul_nonneg (by omega) (by omega)
  have e : (D - 1) * (Y - M) = D * Y - M * D - Y + M := by
    rw [Int.sub_mul, Int.mul_sub, Int.one_mul, Int.mul_comm D M]
    omega
  omega
theorem le_mul1 {a b : Int} (h : 1 ≤ b) (ha : 0 ≤ a) : a ≤ a * b := by
  have := Int.mul_le_mul_of_nonneg_left h ha
  omega
/-- by the middle alone the least cut is told -/
theorem middle_eq {l1 l2 : List Int} {x : Int} (ok : Ok (l1 ++ x :: l2)) (h1 : prodL l1 ≤ x * prodL l2) (h2 : prodL l2 ≤ x * prodL l1) :
    leastZ (l1 ++ x :: l2) = min (prodL l1 + x * prodL l2) (x * prodL l1 + prodL l2) - 1 := by
  have o1 := prodL_pos ok.left
  have okr := ok.right
  have o2 := prodL_pos okr.tail
  have ox := okr.head
  refine (leastZ_eq ?_ ?_).symm
  · by_cases h : prodL l1 + x * prodL l2 ≤ x * prodL l1 + prodL l2
    · exact ⟨l1, x :: l2, rfl, by rw [Int.min_eq_left h]; rfl⟩
    · refine ⟨l1 ++ [x], l2, by simp, ?_⟩
      rw [Int.min_eq_right (by omega), prodL_snoc, Int.mul_comm x]
  · intro m1 m2 e
    rcases List.append_eq_append_iff.mp e with ⟨d, e1, e2⟩ | ⟨d, e1, e2⟩
    · -- l1 = m1 ++ d, m2 = d ++ x :: l2
      subst e1 e2
      have okd := prodL_pos ok.left.right
      have okm := prodL_pos ok.left.left
      simp only [prodL_append, prodL] at *
      have q : prodL m1 ≤ x * prodL l2 := Int.le_trans (le_mul1 okd (by omega)) h1
      have := mul_diff okd q
      have := Int.min_le_left (prodL m1 * prodL d + x * prodL l2) (x * (prodL m1 * prodL d) + prodL l2)
      omega
    · cases d with
      | nil =>
        simp at e1 e2
        subst e1 e2
        have := Int.min_le_left (prodL m1 + x * prodL l2) (x * prodL m1 + prodL l2)
        simp only [prodL]
        omega
      | cons y d =>
        injection e2 with e2 e3
        have e3 : l2 = d ++ m2 := e3
        subst e1 e2 e3
        have okd := prodL_pos okr.tail.left
        have okm := prodL_pos okr.tail.right
        simp only [prodL_append, prodL] at *
        have q : prodL m2 ≤ x * prodL l1 := Int.le_trans (Int.le_trans (le_mul1 okd (by omega)) (by rw [Int.mul_comm]; exact Int.le_refl _)) h2
        have := mul_diff okd q
        have := Int.min_le_right (prodL l1 + x * (prodL d * prodL m2)) (x * prodL l1 + prodL d * prodL m2)
        have e4 : prodL l1 * (x * prodL d) = prodL d * (x * prodL l1) := by
          rw [← Int.mul_assoc, Int.mul_comm (prodL l1) x, Int.mul_comm]
        have e5 : prodL m2 * prodL d = prodL d * prodL m2 := Int.mul_comm _ _
        omega
/-- what the walk to the middle finds -/
theorem middle_of_walk {l1 l2 : List Int} {x : Int} (ok : Ok (l1 ++ x :: l2)) (h1 : l1 = [] ∨ prodL l1 * prodL l1 ≤ prodL (l1 ++ x :: l2)) (h2 : prodL (l1 ++ x :: l2) ≤ prodL l1 * x * (prodL l1 * x)) : prodL l1 ≤ x * prodL l2 ∧ prodL l2 ≤ x * prodL l1 := by
  have o1 := prodL_pos ok.left
  have okr := ok.right
  have o2 := prodL_pos okr.tail
  have ox := okr.head
  rw [prodL_append] at *
  simp only [prodL] at *
  constructor
  · rcases h1 with rfl | h1
    · simp only [prodL]
      have := Int.mul_le_mul (a := 1) (c := x) (b := 1) (d := prodL l2) (by omega) o2 (by decide) (by omega)
      omega
    · exact Int.le_of_mul_le_mul_left h1 (by omega)
  · have e : prodL l1 * x * (prodL l1 * x) = prodL l1 * (x * (x * prodL l1)) := by
      rw [Int.mul_assoc, Int.mul_comm (prodL l1) x]
    rw [e] at h2
    have := Int.le_of_mul_le_mul_left h2 (by omega)
    exact Int.le_of_mul_le_mul_left this (by omega)
theorem middle_ex : ∀ {l2 l1 : List Int}, Ok (l1 ++ l2) → l2 ≠ [] → (l1 = [] ∨ prodL l1 * prodL l1 ≤ prodL (l1 ++ l2)) → ∃ m1 x m2, m1 ++ x :: m2 = l1 ++ l2 ∧ prodL m1 ≤ x * prodL m2 ∧ prodL m2 ≤ x * prodL m1
  | [], _, _, h, _ => absurd rfl h
  | x :: l2, l1, ok, _, h => by
    by_cases c : prodL (l1 ++ x :: l2) ≤ prodL l1 * x * (prodL l1 * x)
    · exact ⟨l1, x, l2, rfl, middle_of_walk ok h c⟩
    · have ok' : Ok ((l1 ++ [x]) ++ l2) := by simpa using ok
      cases l2 with
      | nil =>
        exfalso
        rw [prodL_append] at c
        simp only [prodL, Int.mul_one] at c
        have o1 := prodL_pos ok.left
        have ox := ok.right.head
        have p : 1 * 1 ≤ prodL l1 * x := Int.mul_le_mul o1 (by omega) (by decide) (by omega)
        have := le_mul1 (a := prodL l1 * x) (b := prodL l1 * x) (by omega) (by omega)
        omega
      | cons y l2 =>
        obtain ⟨m1, z, m2, e, q⟩ := middle_ex (l2 := y :: l2) (l1 := l1 ++ [x]) ok' (by simp) (.inr (by
          rw [List.append_assoc, List.singleton_append, prodL_snoc]
          omega))
        exact ⟨m1, z, m2, by rw [e]; simp, q⟩
/-! the cuts, one by one -/
def cutsP (a b : Int) : List Int → List Int
  | [] => []
  | x :: r => (a * x + b / x - 1) :: cutsP (a * x) (b / x) r
def cutsZ (xs : List Int) : List Int := cutsP 1 (prodL xs) xs.dropLast
theorem cutsP_len : ∀ (xs : List Int) (a b : Int), (cutsP a b xs).length = xs.length
  | [], _, _ => rfl
  | _ :: r, _, _ => congrArg (· + 1) (cutsP_len r _ _)
theorem cutsZ_len (xs : List Int) : (cutsZ xs).length = xs.length - 1 := by
  unfold cutsZ
  rw [cutsP_len, List.length_dropLast]
theorem cutsP_get : ∀ (l2 l1 : List Int) (k : Nat), Ok l2 → k + 1 < l2.length → (cutsP (prodL l1) (prodL l2) l2.dropLast)[k]? = some (prodL (l1 ++ l2.take (k + 1)) + prodL (l2.drop (k + 1)) - 1)
  | [], _, _, _, h => by simp at h
  | [x], _, _, _, h => by simp at h
  | x :: y :: r, l1, k, ok, h => by
    have ox := ok.head
    have e : prodL (x :: y :: r) / x = prodL (y :: r) := Int.mul_ediv_cancel_left _ (by omega)
    show ((prodL l1 * x + prodL (x :: y :: r) / x - 1) :: cutsP (prodL l1 * x) (prodL (x :: y :: r) / x) (y :: r).dropLast)[k]? = _
    rw [e]
    cases k with
    | zero => simp [prodL_append, prodL]
    | succ k =>
      have := cutsP_get (y :: r) (l1 ++ [x]) k ok.tail (by simpa using h)
      rw [prodL_snoc] at this
      rw [List.getElem?_cons_succ, this]
      simp
theorem cutsZ_get {xs : List Int} {k : Nat} (ok : Ok xs) (h : k + 1 < xs.length) : (cutsZ xs)[k]? = some (prodL (xs.take (k + 1)) + prodL (xs.drop (k + 1)) - 1) := by
  have := cutsP_get xs [] k ok h
  rw [List.nil_append] at this
  exact this
theorem cutsZ_reverse {xs : List Int} (ok : Ok xs) : cutsZ xs.reverse = (cutsZ xs).reverse := by
  have okr : Ok xs.reverse := ok.perm (List.reverse_perm xs)
  apply List.ext_getElem?
  intro k
  by_cases h : k + 1 < xs.length
  · rw [cutsZ_get okr (by simpa using h), List.getElem?_reverse (by rw [cutsZ_len]; omega), cutsZ_len, cutsZ_get ok (by omega)]
    have e : xs.length - 1 - 1 - k + 1 = xs.length - (k + 1) := by omega
    rw [e, List.take_reverse, List.drop_reverse, prodL_reverse, prodL_reverse]
    congr 1
    omega
  · rw [List.getElem?_eq_none (by rw [cutsZ_len, List.length_reverse]; omega), List.getElem?_eq_none (by rw [List.length_reverse, cutsZ_len]; omega)]
def IsMin (m : Int) (ns : List Int) : Prop := m ∈ ns ∧ ∀ y ∈ ns, m ≤ y
theorem IsMin.uniq {a b : Int} {ns : List Int} (h : IsMin a ns) (g : IsMin b ns) : a = b := Int.le_antisymm (h.2 b g.1) (g.2 a h.1)
theorem one_sum {a b : Int} (ha : 1 ≤ a) (hb : 1 ≤ b) : a + b - 1 ≤ a * b := by
  have := mul_diff (D := a) (M := 1) (Y := b) ha hb
  omega
theorem leastZ_min {xs : List Int} (ok : Ok xs) (h : 2 ≤ xs.length) : IsMin (leastZ xs) (cutsZ xs) := by
  have key : ∀ l1 l2 : List Int, l1 ++ l2 = xs → l1 ≠ [] → l2 ≠ [] → (cutsZ xs)[l1.length - 1]? = some (prodL l1 + prodL l2 - 1) := fun l1 l2 e n1 n2 => by
    have p1 := List.length_pos_iff.mpr n1
    have p2 := List.length_pos_iff.mpr n2
    have q : xs.length = l1.length + l2.length := by rw [← e, List.length_append]
    rw [cutsZ_get ok (by omega)]
    have : l1.length - 1 + 1 = l1.length := by omega
    rw [this]
    subst e
    simp
  have all : ∀ y ∈ cutsZ xs, leastZ xs ≤ y := fun y hy => by
    obtain ⟨k, hk, e⟩ := List.mem_iff_getElem.mp hy
    have hk' : k < xs.length - 1 := by rw [← cutsZ_len]; exact hk
    have e2 := cutsZ_get (k := k) ok (by omega)
    rw [List.getElem?_eq_getElem hk, e] at e2
    injection e2 with e2
    rw [e2]
    exact leastZ_le _ _ (List.take_append_drop _ _)
  refine ⟨?_, all⟩
  obtain ⟨l1, l2, e, q⟩ := leastZ_mem xs
  by_cases hn : l1 = [] ∨ l2 = []
  · -- the first cut is not above it
    have hT : leastZ xs = prodL xs := by
      rcases hn with rfl | rfl
      · simp [prodL] at q e
        rw [q, e]
        omega
      · simp [prodL] at q e
        rw [q, e]
    have f := key (xs.take 1) (xs.drop 1) (List.take_append_drop _ _) (by intro z; have := congrArg List.length z; rw [List.length_take] at this; simp only [List.length_nil] at this; omega) (by intro z; have := congrArg List.length z; rw [List.length_drop] at this; simp only [List.length_nil] at this; omega)
    have m := List.mem_of_getElem? f
    have l := all _ m
    have o1 := prodL_pos (Ok.left (xs := xs.take 1) (ys := xs.drop 1) (by rw [List.take_append_drop]; exact ok))
    have o2 := prodL_pos (Ok.right (xs := xs.take 1) (ys := xs.drop 1) (by rw [List.take_append_drop]; exact ok))
    have s := one_sum o1 o2
    rw [← prodL_append, List.take_append_drop] at s
    have : leastZ xs = prodL (xs.take 1) + prodL (xs.drop 1) - 1 := by omega
    rw [this]
    exact m
  · have f := key l1 l2 e (fun z => hn (.inl z)) (fun z => hn (.inr z))
    rw [q]
    exact List.mem_of_getElem? f
theorem IsMin.reverse {m : Int} {ns : List Int} (h : IsMin m ns) : IsMin m ns.reverse := ⟨List.mem_reverse.mpr h.1, fun y hy => h.2 y (List.mem_reverse.mp hy)⟩
theorem leastZ_one (x : Int) : leastZ [x] = x := by
  simp only [leastZ, vmin, prodL]
  omega
theorem leastZ_pos {xs : List Int} (ok : Ok xs) (h : xs ≠ []) : 2 ≤ leastZ xs := by
  obtain ⟨l1, l2, e, q⟩ := leastZ_mem xs
  have o1 := prodL_pos (show Ok l1 from Ok.left (ys := l2) (by rw [e]; exact ok))
  have o2 := prodL_pos (show Ok l2 from Ok.right (xs := l1) (by rw [e]; exact ok))
  have big : ∀ {l : List Int}, Ok l → l ≠ [] → 2 ≤ prodL l := fun {l} o n => by
    cases l with
    | nil => exact absurd rfl n
    | cons x r =>
      have := o.head
      have p := prodL_pos o.tail
      have := le_mul1 (a := x) p (by omega)
      simp only [prodL]
      omega
  cases l1 with
  | cons x r =>
    have := big (show Ok (x :: r) from Ok.left (ys := l2) (by rw [e]; exact ok)) (by simp)
    omega
  | nil =>
    have := big (show Ok l2 from Ok.right (xs := []) (by rw [e]; exact ok)) (by rintro rfl; exact h e.symm)
    omega
/-! sequences of places -/
theorem perm_map_inv {α β : Type} {f : α → β} {l ys : List β} (h : l.Perm ys) : ∀ is : List α, ys = is.map f → ∃ ps : List α, ps.Perm is ∧ l = ps.map f := by
  induction h with
  | nil =>
    intro is e
    have := List.map_eq_nil_iff.mp e.symm
    subst this
    exact ⟨[], .refl _, rfl⟩
  | cons x _ ih =>
    intro is e
    cases is with
    | nil => cases e
    | cons i is =>
      injection e with e1 e2
      obtain ⟨ps, p, q⟩ := ih is e2
      exact ⟨i :: ps, p.cons i, by rw [List.map_cons, ← e1, ← q]⟩
  | swap x y l =>
    intro is e
    cases is with
    | nil => cases e
    | cons i is =>
      cases is with
      | nil => cases e
      | cons j is =>
        injection e with e1 e2
        injection e2 with e2 e3
        exact ⟨j :: i :: is, .swap _ _ _, by rw [List.map_cons, List.map_cons, ← e1, ← e2, ← e3]⟩
  | trans _ _ ih1 ih2 =>
    intro is e
    obtain ⟨ps, p, q⟩ := ih2 is e
    obtain ⟨ps', p', q'⟩ := ih1 ps q
    exact ⟨ps', p'.trans p, q'⟩
/-- the sizes at places -/
def at0 (xs : List Int) (i : Nat) : Int := xs.getD i 0
def pick (xs : List Int) (ps : List Nat) : List Int := ps.map (at0 xs)
theorem pick_range (xs : List Int) : pick xs (List.range xs.length) = xs := by
  apply List.ext_getElem?
  intro k
  unfold pick at0
  rw [List.getElem?_map]
  by_cases h : k < xs.length
  · simp [h]
  · simp [h]
theorem pick_perm {xs l : List Int} (h : l.Perm xs) : ∃ ps, ps.Perm (List.range xs.length) ∧ l = pick xs ps := perm_map_inv h _ (pick_range xs).symm
theorem pick_of_perm {xs : List Int} {ps : List Nat} (h : ps.Perm (List.range xs.length)) : (pick xs ps).Perm xs := by
  have := h.map (at0 xs)
  have e : (List.range xs.length).map (at0 xs) = xs := pick_range xs
  rw [e] at this
  exact this
/-- v is the greatest least cut -/
def IsBest (v : Int) (xs : List Int) : Prop := (∃ l, l.Perm xs ∧ leastZ l = v) ∧ ∀ l, l.Perm xs → leastZ l ≤ v
theorem IsBest.uniq {a b : Int} {xs : List Int} (h : IsBest a xs) (g : IsBest b xs) : a = b := by
  obtain ⟨⟨l, p, e⟩, k⟩ := h
  obtain ⟨⟨l', p', e'⟩, k'⟩ := g
  have := k l' p'
  have := k' l p
  omega
theorem IsBest.perm {a : Int} {xs ys : List Int} (h : IsBest a xs) (p : ys.Perm xs) : IsBest a ys := by
  obtain ⟨⟨l, q, e⟩, k⟩ := h
  exact ⟨⟨l, q.trans p.symm, e⟩, fun l' q' => k l' (q'.trans p)⟩
/-! lots -/
/-- by the figures of the lot: those taken (b) or left -/
def sel (b : Bool) : Nat → List Nat → List Nat
  | _, [] => []
  | lot, p :: ps => if (lot % 2 == 1) = b then p :: sel b (lot / 2) ps else sel b (lot / 2) ps
theorem sel_perm : ∀ (ps : List Nat) (lot : Nat), (sel true lot ps ++ sel false lot ps).Perm ps
  | [], _ => .refl _
  | p :: ps, lot => by
    have ih := sel_perm ps (lot / 2)
    unfold sel
    cases (lot % 2 == 1) with
    | true => exact ih.cons p
    | false => exact List.perm_middle.trans (ih.cons p)
theorem sel_filter (q : Nat → Bool) : ∀ ps : List Nat, ∃ lot, lot < 2 ^ ps.length ∧ sel true lot ps = ps.filter q ∧ sel false lot ps = ps.filter fun p => !q p
  | [] => ⟨0, by simp, rfl, rfl⟩
  | p :: ps => by
    obtain ⟨lot, h1, h2, h3⟩ := sel_filter q ps
    cases e : q p with
    | true =>
      refine ⟨2 * lot + 1, by simp only [List.length_cons, Nat.pow_succ]; omega, ?_, ?_⟩ <;> simp [sel, e, h2, h3, show (2 * lot + 1) / 2 = lot by omega]
    | false =>
      refine ⟨2 * lot, by simp only [List.length_cons, Nat.pow_succ]; omega, ?_, ?_⟩ <;> simp [sel, e, h2, h3, show (2 * lot) / 2 = lot by omega]
theorem perm_of_nodup {l1 l2 : List Nat} (h1 : l1.Nodup) (h2 : l2.Nodup) (h : ∀ a, a ∈ l1 ↔ a ∈ l2) : l1.Perm l2 := (List.perm_ext_iff_of_nodup h1 h2).mpr h
def others (n m : Nat) : List Nat := (List.range n).filter fun p => p != m
theorem others_perm {n m : Nat} (h : m < n) : (m :: others n m).Perm (List.range n) := by
  refine perm_of_nodup (List.nodup_cons.mpr ⟨by simp [others], List.nodup_range.filter _⟩) List.nodup_range fun a => ?_
  simp only [others, List.mem_cons, List.mem_filter, List.mem_range, bne_iff_ne]
  constructor
  · rintro (rfl | ⟨h, _⟩)
    · exact h
    · exact h
  · intro ha
    by_cases e : a = m
    · exact .inl e
    · exact .inr ⟨ha, e⟩
theorem others_len {n m : Nat} (h : m < n) : (others n m).length + 1 = n := by
  have := (others_perm h).length_eq
  simpa using this
/-- one try: the middle m and a lot of the others -/
def ahead (n m lot : Nat) : List Nat := sel true lot (others n m)
def behind (n m lot : Nat) : List Nat := sel false lot (others n m)
def one (xs : List Int) (m lot : Nat) : Int := prodL (pick xs (ahead xs.length m lot))
def other (xs : List Int) (m lot : Nat) : Int := prodL (pick xs (behind xs.length m lot))
def fits (xs : List Int) (m lot : Nat) : Bool := decide (one xs m lot ≤ at0 xs m * other xs m lot) && decide (other xs m lot ≤ at0 xs m * one xs m lot)
def cutT (xs : List Int) (m lot : Nat) : Int := min (one xs m lot + at0 xs m * other xs m lot) (at0 xs m * one xs m lot + other xs m lot) - 1
def ordT (n m lot : Nat) : List Nat := ahead n m lot ++ [m] ++ behind n m lot
theorem ordT_perm {n m : Nat} (h : m < n) (lot : Nat) : (ordT n m lot).Perm (List.range n) := by
  unfold ordT
  rw [List.append_assoc, List.singleton_append]
  exact List.perm_middle.trans (((sel_perm (others n m) lot).cons m).trans (others_perm h))
theorem cutT_eq {xs : List Int} {m lot : Nat} (ok : Ok xs) (h : m < xs.length) (hf : fits xs m lot = true) : leastZ (pick xs (ordT xs.length m lot)) = cutT xs m lot := by
  have p := pick_of_perm (ordT_perm h lot)
  have ok2 := ok.perm p
  have e : pick xs (ordT xs.length m lot) = pick xs (ahead xs.length m lot) ++ at0 xs m :: pick xs (behind xs.length m lot) := by
    simp [pick, ordT]
  rw [e] at ok2 ⊢
  simp only [fits, Bool.and_eq_true, decide_eq_true_eq] at hf
  exact middle_eq ok2 hf.1 hf.2
theorem try_ex {xs l : List Int} (ok : Ok xs) (hn : xs ≠ []) (p : l.Perm xs) : ∃ m lot, m < xs.length ∧ lot < 2 ^ (xs.length - 1) ∧ fits xs m lot = true ∧ cutT xs m lot = leastZ l := by
  obtain ⟨ps, hp, rfl⟩ := pick_perm p
  have okl := ok.perm p
  have ne : pick xs ps ≠ [] := fun z => hn (by rw [z] at p; exact p.symm.eq_nil)
  obtain ⟨m1, x, m2, e, h1, h2⟩ := middle_ex (l1 := []) (l2 := pick xs ps) okl ne (.inl rfl)
  rw [List.nil_append] at e
  -- the places
  have e' := e.symm
  unfold pick at e'
  obtain ⟨p1, pr, rfl, ep1, er⟩ := List.map_eq_append_iff.mp e'
  obtain ⟨m, p2, rfl, em, ep2⟩ := List.map_eq_cons_iff.mp er
  have nd : (p1 ++ m :: p2).Nodup := hp.nodup_iff.mpr List.nodup_range
  have hm : m < xs.length := by
    have := hp.mem_iff.mp (show m ∈ p1 ++ m :: p2 by simp)
    simpa using this
  have ho : (p1 ++ p2).Perm (others xs.length m) := by
    have := (List.perm_middle.symm.trans hp).trans (others_perm hm).symm
    exact this.cons_inv
  have nd2 : (p1 ++ p2).Nodup := by
    have := List.perm_middle.nodup_iff.mp nd
    exact (List.nodup_cons.mp this).2
  obtain ⟨lot, l1, l2, l3⟩ := sel_filter (fun p => decide (p ∈ p1)) (others xs.length m)
  have ndo : (others xs.length m).Nodup := ho.nodup_iff.mp nd2
  have nda := List.nodup_append.mp nd2
  have q1 : (ahead xs.length m lot).Perm p1 := by
    unfold ahead
    rw [l2]
    refine perm_of_nodup (ndo.filter _) nda.1 fun a => ?_
    simp only [List.mem_filter, decide_eq_true_eq, ← ho.mem_iff]
    exact ⟨fun h => h.2, fun h => ⟨List.mem_append_left _ h, h⟩⟩
  have q2 : (behind xs.length m lot).Perm p2 := by
    unfold behind
    rw [l3]
    refine perm_of_nodup (ndo.filter _) nda.2.1 fun a => ?_
    simp only [List.mem_filter, Bool.not_eq_true', decide_eq_false_iff_not, ← ho.mem_iff]
    constructor
    · rintro ⟨h, n⟩
      rcases List.mem_append.mp h with h | h
      · exact absurd h n
      · exact h
    · exact fun h => ⟨List.mem_append_right _ h, fun z => nda.2.2 a z a h rfl⟩
  have r1 : one xs m lot = prodL m1 := by
    unfold one pick
    rw [prodL_perm (q1.map (at0 xs)), ep1]
  have r2 : other xs m lot = prodL m2 := by
    unfold other pick
    rw [prodL_perm (q2.map (at0 xs)), ep2]
  have hol := others_len hm
  refine ⟨m, lot, hm, by rw [show xs.length - 1 = (others xs.length m).length by omega]; exact l1, ?_, ?_⟩
  · unfold fits
    rw [r1, r2, em]
    simp [h1, h2]
  · unfold cutT
    rw [r1, r2, em, ← e]
    rw [← e] at okl
    exact (middle_eq okl h1 h2).symm
/-- the tries, one after the other -/
def stepT (xs : List Int) (m lot : Nat) (s : Int × List Nat) : Int × List Nat :=
  if fits xs m lot = true then (if cutT xs m lot > s.1 then (cutT xs m lot, ordT xs.length m lot) else s) else s
def lotsT (xs : List Int) (m : Nat) (s : Int × List Nat) : Int × List Nat := (List.range (2 ^ (others xs.length m).length)).foldl (fun s lot => stepT xs m lot s) s
def bestT (xs : List Int) : Int × List Nat := (List.range xs.length).foldl (fun s m => lotsT xs m s) (1, [])
def Good (xs : List Int) (s : Int × List Nat) : Prop := 1 ≤ s.1 ∧ (s = (1, []) ∨ (s.2.Perm (List.range xs.length) ∧ leastZ (pick xs s.2) = s.1))
theorem stepT_good {xs : List Int} {m lot : Nat} {s : Int × List Nat} (ok : Ok xs) (h : m < xs.length) (g : Good xs s) : Good xs (stepT xs m lot s) ∧ s.1 ≤ (stepT xs m lot s).1 ∧ (fits xs m lot = true → cutT xs m lot ≤ (stepT xs m lot s).1) := by
  unfold stepT
  by_cases hf : fits xs m lot = true
  · rw [if_pos hf]
    by_cases hc : cutT xs m lot > s.1
    · rw [if_pos hc]
      have g1 := g.1
      exact ⟨⟨by show 1 ≤ cutT xs m lot; omega, .inr ⟨ordT_perm h lot, cutT_eq ok h hf⟩⟩, by show s.1 ≤ cutT xs m lot; omega, fun _ => Int.le_refl _⟩
    · rw [if_neg hc]
      exact ⟨g, Int.le_refl _, fun _ => by omega⟩
  · rw [if_neg hf]
    exact ⟨g, Int.le_refl _, fun z => absurd z hf⟩
theorem fold_good {xs : List Int} {α : Type} (f : (Int × List Nat) → α → (Int × List Nat)) (P : α → Int → Prop) (hP : ∀ a i j, P a i → i ≤ j → P a j) : ∀ (l : List α) (s : Int × List Nat),
    (∀ a ∈ l, ∀ s, Good xs s → Good xs (f s a) ∧ s.1 ≤ (f s a).1 ∧ P a (f s a).1) → Good xs s → Good xs (l.foldl f s) ∧ s.1 ≤ (l.foldl f s).1 ∧ ∀ a ∈ l, P a (l.foldl f s).1
  | [], s, _, g => ⟨g, Int.le_refl _, fun _ m => by cases m⟩
  | a :: l, s, h, g => by
    obtain ⟨h1, h2, h3⟩ := h a List.mem_cons_self s g
    obtain ⟨k1, k2, k3⟩ := fold_good f P hP l (f s a) (fun b hb => h b (List.mem_cons_of_mem _ hb)) h1
    refine ⟨k1, Int.le_trans h2 k2, fun b hb => ?_⟩
    rcases List.mem_cons.mp hb with rfl | hb
    · exact hP _ _ _ h3 k2
    · exact k3 b hb
theorem lotsT_good {xs : List Int} {m : Nat} {s : Int × List Nat} (ok : Ok xs) (h : m < xs.length) (g : Good xs s) : Good xs (lotsT xs m s) ∧ s.1 ≤ (lotsT xs m s).1 ∧ ∀ lot, lot < 2 ^ (others xs.length m).length → fits xs m lot = true → cutT xs m lot ≤ (lotsT xs m s).1 := by
  have := fold_good (xs := xs) (fun s lot => stepT xs m lot s) (fun lot v => fits xs m lot = true → cutT xs m lot ≤ v) (fun a i j p q f => Int.le_trans (p f) q) (List.range (2 ^ (others xs.length m).length)) s (fun lot _ s g => stepT_good ok h g) g
  exact ⟨this.1, this.2.1, fun lot hl => this.2.2 lot (List.mem_range.mpr hl)⟩
theorem bestT_good {xs : List Int} (ok : Ok xs) (hn : xs ≠ []) : IsBest (bestT xs).1 xs ∧ (bestT xs).2.Perm (List.range xs.length) ∧ leastZ (pick xs (bestT xs).2) = (bestT xs).1 := by
  have := fold_good (xs := xs) (fun s m => lotsT xs m s) (fun m v => ∀ lot, lot < 2 ^ (others xs.length m).length → fits xs m lot = true → cutT xs m lot ≤ v) (fun a i j p q lot hl f => Int.le_trans (p lot hl f) q) (List.range xs.length) (1, []) (fun m hm s g => lotsT_good ok (List.mem_range.mp hm) g) ⟨Int.le_refl _, .inl rfl⟩
  obtain ⟨⟨g1, g2⟩, _, g3⟩ := this
  have top : ∀ l, l.Perm xs → leastZ l ≤ (bestT xs).1 := fun l p => by
    obtain ⟨m, lot, h1, h2, h3, h4⟩ := try_ex ok hn p
    rw [← h4]
    have := others_len h1
    exact g3 m (List.mem_range.mpr h1) lot (by rw [show (others xs.length m).length = xs.length - 1 by omega]; exact h2) h3
  have big := top xs (.refl _)
  have two := leastZ_pos ok hn
  rcases g2 with g2 | ⟨g2, g4⟩
  · exfalso
    have : (bestT xs).1 = 1 := congrArg Prod.fst g2
    omega
  · exact ⟨⟨⟨_, pick_of_perm g2, g4⟩, top⟩, g2, g4⟩
/-! the greatest, lot by lot -/
/-- least of what the gaps within a sequence have, T the product of all -/
def valT (T : Int) (xs : List Int) : List Nat → Int
  | [] => T
  | p :: ps => min (valT T xs ps) (prodL (pick xs (p :: ps)) + T / prodL (pick xs (p :: ps)) - 1)
/-- the places of a lot -/
def bitsOf (n lot : Nat) : List Nat := (List.range n).filter fun i => lot.testBit i
def IsTop (T : Int) (xs : List Int) (lot : Nat) (v : Int) : Prop := (∃ ps, ps.Perm (bitsOf xs.length lot) ∧ valT T xs ps = v) ∧ ∀ ps, ps.Perm (bitsOf xs.length lot) → valT T xs ps ≤ v
def IsMax (m : Int) (ns : List Int) : Prop := m ∈ ns ∧ ∀ y ∈ ns, y ≤ m
theorem bit_sub : ∀ (i lot j : Nat), lot.testBit i = true → (lot - 2 ^ i).testBit j = (lot.testBit j && decide (i ≠ j))
  | 0, lot, j, h => by
    rw [Nat.testBit_zero, decide_eq_true_eq] at h
    cases j with
    | zero =>
      simp only [Nat.testBit_zero]
      have : (lot - 2 ^ 0) % 2 = 0 := by omega
      simp [this]
    | succ j =>
      have : (lot - 2 ^ 0) / 2 = lot / 2 := by omega
      rw [Nat.testBit_succ, Nat.testBit_succ, this]
      simp
  | i + 1, lot, j, h => by
    rw [Nat.testBit_succ] at h
    have g := Nat.ge_two_pow_of_testBit h
    have e : 2 ^ (i + 1) = 2 * 2 ^ i := by rw [Nat.pow_succ]; omega
    cases j with
    | zero =>
      simp only [Nat.testBit_zero]
      have : (lot - 2 ^ (i + 1)) % 2 = lot % 2 := by omega
      simp [this]
    | succ j =>
      have : (lot - 2 ^ (i + 1)) / 2 = lot / 2 - 2 ^ i := by omega
      rw [Nat.testBit_succ, Nat.testBit_succ, this, bit_sub i (lot / 2) j h]
      simp
theorem bits_sub {n lot i : Nat} (h : i ∈ bitsOf n lot) : (i :: bitsOf n (lot - 2 ^ i)).Perm (bitsOf n lot) := by
  obtain ⟨h1, h2⟩ := List.mem_filter.mp h
  have key := fun j => bit_sub i lot j h2
  refine perm_of_nodup (List.nodup_cons.mpr ⟨fun z => ?_, List.nodup_range.filter _⟩) (List.nodup_range.filter _) fun a => ?_
  · have := (List.mem_filter.mp z).2
    rw [key] at this
    simp at this
  · simp only [bitsOf, List.mem_cons, List.mem_filter, key, Bool.and_eq_true, decide_eq_true_eq]
    constructor
    · rintro (rfl | ⟨a1, a2, _⟩)
      · exact ⟨h1, h2⟩
      · exact ⟨a1, a2⟩
    · rintro ⟨a1, a2⟩
      by_cases e : a = i
      · exact .inl e
      · exact .inr ⟨a1, a2, fun z => e z.symm⟩
theorem top_zero (T : Int) (xs : List Int) : IsTop T xs 0 T := by
  have e : bitsOf xs.length 0 = [] := by simp [bitsOf]
  unfold IsTop
  rw [e]
  exact ⟨⟨[], .refl _, rfl⟩, fun ps h => by rw [h.eq_nil]; exact Int.le_refl _⟩
theorem top_step {T : Int} {xs : List Int} {lot : Nat} {b : Nat → Int} {M : Int} (h : ∀ i ∈ bitsOf xs.length lot, IsTop T xs (lot - 2 ^ i) (b i)) (hM : IsMax M ((bitsOf xs.length lot).map b)) :
    IsTop T xs lot (min M (prodL (pick xs (bitsOf xs.length lot)) + T / prodL (pick xs (bitsOf xs.length lot)) - 1)) := by
  have pr : ∀ ps, ps.Perm (bitsOf xs.length lot) → prodL (pick xs ps) = prodL (pick xs (bitsOf xs.length lot)) := fun ps p => prodL_perm (p.map (at0 xs))
  constructor
  · obtain ⟨i, hi, e⟩ := List.mem_map.mp hM.1
    obtain ⟨⟨ps, p, q⟩, _⟩ := h i hi
    refine ⟨i :: ps, (p.cons i).trans (bits_sub hi), ?_⟩
    unfold valT
    rw [q, e, pr _ ((p.cons i).trans (bits_sub hi))]
  · intro ps p
    cases ps with
    | nil =>
      exfalso
      have := p.symm.eq_nil
      obtain ⟨i, hi, _⟩ := List.mem_map.mp hM.1
      rw [this] at hi
      cases hi
    | cons i ps =>
      have hi : i ∈ bitsOf xs.length lot := p.mem_iff.mp List.mem_cons_self
      have q : ps.Perm (bitsOf xs.length (lot - 2 ^ i)) := (p.trans (bits_sub hi).symm).cons_inv
      have l1 := (h i hi).2 ps q
      have l2 := hM.2 (b i) (List.mem_map.mpr ⟨i, hi, rfl⟩)
      unfold valT
      rw [pr _ p]
      omega
theorem bits_full (n : Nat) : bitsOf n (2 ^ n - 1) = List.range n := by
  unfold bitsOf
  rw [List.filter_eq_self]
  intro a ha
  rw [Nat.testBit_two_pow_sub_one]
  simpa using ha
/-- at the whole the gaps' least is the least cut -/
theorem valT_all {xs : List Int} (ok : Ok xs) : ∀ (ps qs : List Nat), (ps ++ qs).Perm (List.range xs.length) → ∃ l1 l2, l1 ++ l2 = ps ∧ valT (prodL xs) xs ps = prodL (pick xs l2) + prodL (pick xs (l1 ++ qs)) - 1 ∧ ∀ m1 m2, m1 ++ m2 = ps → valT (prodL xs) xs ps ≤ prodL (pick xs m2) + prodL (pick xs (m1 ++ qs)) - 1
  | [], qs, p => by
    have e : prodL (pick xs qs) = prodL xs := prodL_perm (pick_of_perm p)
    refine ⟨[], [], rfl, ?_, fun m1 m2 h => ?_⟩
    · show prodL xs = 1 + prodL (pick xs qs) - 1
      omega
    · obtain ⟨rfl, rfl⟩ := List.append_eq_nil_iff.mp h
      show prodL xs ≤ 1 + prodL (pick xs qs) - 1
      omega
  | i :: ps, qs, p => by
    have p' : (ps ++ i :: qs).Perm (List.range xs.length) := List.perm_middle.trans p
    obtain ⟨l1, l2, e, q, r⟩ := valT_all ok ps (i :: qs) p'
    have d : prodL xs / prodL (pick xs (i :: ps)) = prodL (pick xs qs) := by
      have e1 : prodL xs = prodL (pick xs (i :: ps)) * prodL (pick xs qs) := by
        rw [← prodL_append, ← prodL_perm (pick_of_perm p)]
        simp [pick]
      have okp : Ok (pick xs (i :: ps)) := by
        have := ok.perm (pick_of_perm p)
        have e2 : pick xs (i :: ps ++ qs) = pick xs (i :: ps) ++ pick xs qs := by simp [pick]
        rw [e2] at this
        exact this.left
      have := prodL_pos okp
      rw [e1]
      exact Int.mul_ediv_cancel_left _ (by omega)
    have sw : ∀ l : List Nat, prodL (pick xs (l ++ i :: qs)) = prodL (pick xs (i :: l ++ qs)) := fun l => prodL_perm (List.perm_middle.map (at0 xs))
    unfold valT
    rw [d]
    by_cases c : valT (prodL xs) xs ps ≤ prodL (pick xs (i :: ps)) + prodL (pick xs qs) - 1
    · refine ⟨i :: l1, l2, by rw [← e]; rfl, by rw [Int.min_eq_left c, q, sw], ?_⟩
      intro m1 m2 h
      rw [Int.min_eq_left c]
      cases m1 with
      | nil =>
        have h : m2 = i :: ps := h
        subst h
        exact c
      | cons j m1 =>
        injection h with h1 h2
        subst h1
        have := r m1 m2 h2
        rw [sw] at this
        exact this
    · refine ⟨[], i :: ps, rfl, by rw [Int.min_eq_right (by omega)]; rfl, ?_⟩
      intro m1 m2 h
      rw [Int.min_eq_right (by omega)]
      cases m1 with
      | nil =>
        have h : m2 = i :: ps := h
        subst h
        exact Int.le_refl _
      | cons j m1 =>
        injection h with h1 h2
        subst h1
        have := r m1 m2 h2
        rw [sw] at this
        omega
theorem valT_full {xs : List Int} (ok : Ok xs) {ps : List Nat} (p : ps.Perm (List.range xs.length)) : valT (prodL xs) xs ps = leastZ (pick xs ps) := by
  obtain ⟨l1, l2, e, q, r⟩ := valT_all ok ps [] (by simpa using p)
  refine leastZ_eq ⟨pick xs l1, pick xs l2, by rw [← e]; simp [pick], by rw [q]; simp; omega⟩ fun a b h => ?_
  unfold pick at h
  obtain ⟨m1, m2, e1, e2, e3⟩ := List.map_eq_append_iff.mp h.symm
  subst e1
  have := r m1 m2 rfl
  unfold pick at this
  rw [List.append_nil, e2, e3] at this
  omega
theorem top_best {xs : List Int} {v : Int} (ok : Ok xs) (h : IsTop (prodL xs) xs (2 ^ xs.length - 1) v) : IsBest v xs := by
  obtain ⟨⟨ps, p, q⟩, k⟩ := h
  rw [bits_full] at *
  refine ⟨⟨_, pick_of_perm p, by rw [← valT_full ok p]; exact q⟩, fun l hl => ?_⟩
  obtain ⟨ps, p, rfl⟩ := pick_perm hl
  rw [← valT_full ok p]
  exact k ps p
end K12M
end
section
set_option Elab.async false
set_option linter.all false
set_option maxRecDepth 100000
set_option maxHeartbeats 4000000
/-! K16M: the mesh of two counts, plain. -/
namespace K16M
/-- two products with the sizes at the gap -/
structure Hv (P S a b : Int) : Prop where
  a2 : 2 ≤ a
  b2 : 2 ≤ b
  p : ∃ p, 1 ≤ p ∧ P = p * a ∧ p ≤ S
  s : ∃ s, 1 ≤ s ∧ S = s * b ∧ s ≤ P
def M (P S a b r : Int) : Int := min (r * a) (P - 1 - (S - 1 - r) / b)
def G (P S a b l : Int) : Int := max (l / a) (S - 1 - b * (P - 1 - l))
def R (P S a b l : Int) : Int := if l = 0 then 0 else G P S a b (l - 1)
section
variable {P S a b : Int}
theorem Hv.P2 (h : Hv P S a b) : 2 ≤ P := by
  obtain ⟨p, p1, e, _⟩ := h.p
  have := h.a2
  have : 1 * a ≤ p * a := Int.mul_le_mul_of_nonneg_right p1 (by omega)
  omega
theorem Hv.S2 (h : Hv P S a b) : 2 ≤ S := by
  obtain ⟨s, s1, e, _⟩ := h.s
  have := h.b2
  have : 1 * b ≤ s * b := Int.mul_le_mul_of_nonneg_right s1 (by omega)
  omega
theorem Hv.aP (h : Hv P S a b) : a ≤ P := by
  obtain ⟨p, p1, e, _⟩ := h.p
  have := h.a2
  have : 1 * a ≤ p * a := Int.mul_le_mul_of_nonneg_right p1 (by omega)
  omega
theorem Hv.bS (h : Hv P S a b) : b ≤ S := by
  obtain ⟨s, s1, e, _⟩ := h.s
  have := h.b2
  have : 1 * b ≤ s * b := Int.mul_le_mul_of_nonneg_right s1 (by omega)
  omega
theorem M_iff (h : Hv P S a b) (r l : Int) : M P S a b r ≤ l ↔ r ≤ G P S a b l := by
  have a0 : 0 < a := by have := h.a2; omega
  have b0 : 0 < b := by have := h.b2; omega
  unfold M G
  have e1 : r * a ≤ l ↔ r ≤ l / a := (Int.le_ediv_iff_mul_le a0).symm
  have e2 : P - 1 - l ≤ (S - 1 - r) / b ↔ (P - 1 - l) * b ≤ S - 1 - r := Int.le_ediv_iff_mul_le b0
  rw [Int.mul_comm] at e2
  omega
theorem G_mono (h : Hv P S a b) {l l' : Int} (hl : l ≤ l') : G P S a b l ≤ G P S a b l' := by
  have a0 : 0 < a := by have := h.a2; omega
  have b0 : 0 < b := by have := h.b2; omega
  have e1 : l / a ≤ l' / a := Int.ediv_le_ediv a0 hl
  have e2 : b * (P - 1 - l') ≤ b * (P - 1 - l) := Int.mul_le_mul_of_nonneg_left (by omega) (by omega)
  unfold G
  omega
theorem G_nn (h : Hv P S a b) {l : Int} (hl : 0 ≤ l) : 0 ≤ G P S a b l := by
  have a0 : 0 < a := by have := h.a2; omega
  have := Int.ediv_nonneg hl (Int.le_of_lt a0)
  unfold G
  omega
theorem G_top (h : Hv P S a b) : G P S a b (P - 1) = S - 1 := by
  obtain ⟨p, p1, e, pS⟩ := h.p
  have a0 : 0 < a := by have := h.a2; omega
  have q : (P - 1) / a < p := by
    rw [Int.ediv_lt_iff_lt_mul a0]
    omega
  unfold G
  rw [show P - 1 - (P - 1) = 0 by omega, Int.mul_zero]
  omega
theorem G_le (h : Hv P S a b) {l : Int} (hl : l ≤ P - 1) : G P S a b l ≤ S - 1 := by
  rw [← G_top h]
  exact G_mono h hl
theorem G_neg (h : Hv P S a b) {l : Int} (hl : l < 0) : G P S a b l < 0 := by
  obtain ⟨s, s1, e, sP⟩ := h.s
  have a0 : 0 < a := by have := h.a2; omega
  have b0 : 0 < b := by have := h.b2; omega
  have q : l / a < 0 := Int.ediv_neg_of_neg_of_pos hl a0
  have e2 : s * b ≤ P * b := Int.mul_le_mul_of_nonneg_right sP (by omega)
  have e3 : b * P ≤ b * (P - 1 - l) := Int.mul_le_mul_of_nonneg_left (by omega) (by omega)
  rw [Int.mul_comm P] at e2
  unfold G
  omega
theorem M_nn (h : Hv P S a b) {r : Int} (hr : 1 ≤ r) : 0 ≤ M P S a b r := by
  refine Int.not_lt.mp fun q => ?_
  have := (M_iff h r (-1)).mp (by omega)
  have := G_neg h (l := -1) (by omega)
  omega
theorem M_le (h : Hv P S a b) {r : Int} (hr : r ≤ S - 1) : M P S a b r ≤ P - 1 := by
  rw [M_iff h, G_top h]
  exact hr
theorem R_zero : R P S a b 0 = 0 := rfl
theorem R_pos {l : Int} (hl : l ≠ 0) : R P S a b l = G P S a b (l - 1) := if_neg hl
theorem R_nn (h : Hv P S a b) {l : Int} (hl : 0 ≤ l) : 0 ≤ R P S a b l := by
  by_cases q : l = 0
  · rw [q, R_zero]
    exact Int.le_refl _
  · rw [R_pos q]
    exact G_nn h (by omega)
theorem R_le (h : Hv P S a b) {l : Int} (h1 : l ≤ P - 1) : R P S a b l ≤ S - 1 := by
  by_cases q : l = 0
  · rw [q, R_zero]
    have := h.S2
    omega
  · rw [R_pos q]
    exact G_le h (by omega)
theorem R_G (h : Hv P S a b) {l : Int} (hl : 0 ≤ l) : R P S a b l ≤ G P S a b l := by
  by_cases q : l = 0
  · rw [q, R_zero]
    exact G_nn h (by omega)
  · rw [R_pos q]
    exact G_mono h (by omega)
theorem R_succ {l : Int} (hl : 0 ≤ l) : R P S a b (l + 1) = G P S a b l := by
  rw [R_pos (by omega), show l + 1 - 1 = l by omega]
theorem R_mono (h : Hv P S a b) {l : Int} (hl : 0 ≤ l) : R P S a b l ≤ R P S a b (l + 1) := by
  rw [R_succ hl]
  exact R_G h hl
/-- the left count l stands at the stage k -/
structure Std (P S a b l k : Int) : Prop where
  l0 : 0 ≤ l
  l1 : l ≤ P - 1
  lo : l + R P S a b l ≤ k
  hi : k ≤ l + G P S a b l
theorem Std.one (h : Hv P S a b) {l l' k : Int} (x : Std P S a b l k) (y : Std P S a b l' k) : l = l' := by
  have key : ∀ {l l' : Int}, Std P S a b l k → Std P S a b l' k → ¬ l < l' := fun {l l'} x y q => by
    have g := G_mono h (l := l) (l' := l' - 1) (by omega)
    have := y.lo
    rw [R_pos (by have := x.l0; omega)] at this
    have := x.hi
    omega
  have := key x y
  have := key y x
  omega
def C (P S a b : Int) : Nat → Int
  | 0 => 0
  | k + 1 => if C P S a b k < P - 1 ∧ C P S a b k + 1 + R P S a b (C P S a b k + 1) ≤ (k : Int) + 1 then C P S a b k + 1 else C P S a b k
theorem C_std (h : Hv P S a b) : ∀ k : Nat, (k : Int) ≤ P + S - 2 → Std P S a b (C P S a b k) k
  | 0, _ => ⟨Int.le_refl _, by have := h.P2; show (0 : Int) ≤ P - 1; omega, by show (0 : Int) + R P S a b 0 ≤ 0; rw [R_zero]; omega, by show (0 : Int) ≤ 0 + G P S a b 0; have := G_nn h (l := 0) (by omega); omega⟩
  | k + 1, hk => by
    have ih := C_std h k (by omega)
    have e : C P S a b (k + 1) = if C P S a b k < P - 1 ∧ C P S a b k + 1 + R P S a b (C P S a b k + 1) ≤ (k : Int) + 1 then C P S a b k + 1 else C P S a b k := rfl
    have i0 := ih.l0
    have i1 := ih.l1
    have i2 := ih.lo
    have i3 := ih.hi
    rw [e]
    generalize C P S a b k = l at *
    rw [R_succ i0]
    by_cases q : l < P - 1 ∧ l + 1 + G P S a b l ≤ (k : Int) + 1
    · rw [if_pos q]
      refine ⟨by omega, by omega, by rw [R_succ i0]; omega, ?_⟩
      have := G_mono h (l := l) (l' := l + 1) (by omega)
      omega
    · rw [if_neg q]
      refine ⟨i0, i1, by omega, ?_⟩
      by_cases z : l < P - 1
      · omega
      · have : l = P - 1 := by omega
        rw [this, G_top h]
        omega
theorem C_of (h : Hv P S a b) {l : Int} {k : Nat} (hk : (k : Int) ≤ P + S - 2) (x : Std P S a b l k) : C P S a b k = l := Std.one h (C_std h k hk) x
theorem std_le (h : Hv P S a b) {l k : Int} (x : Std P S a b l k) : 0 ≤ k - l ∧ k - l ≤ S - 1 := by
  have := R_nn h x.l0
  have := G_le h x.l1
  have := x.lo
  have := x.hi
  omega
/-- the pair at left, right -/
theorem std_of (h : Hv P S a b) {l r : Int} (l0 : 0 ≤ l) (l1 : l ≤ P - 1) (h0 : R P S a b l ≤ r) (h1 : r ≤ G P S a b l) : Std P S a b l (l + r) := ⟨l0, l1, by omega, by omega⟩
/-- where the left count begins -/
theorem left_std (h : Hv P S a b) {l : Int} (l0 : 0 ≤ l) (l1 : l ≤ P - 1) : Std P S a b l (l + R P S a b l) := std_of h l0 l1 (Int.le_refl _) (R_G h l0)
theorem left_first (h : Hv P S a b) {l k : Int} (x : Std P S a b l k) : l + R P S a b l ≤ k := x.lo
/-- where the right count begins -/
theorem RM (h : Hv P S a b) {r : Int} (r1 : 1 ≤ r) : R P S a b (M P S a b r) ≤ r - 1 := by
  by_cases q : M P S a b r = 0
  · rw [q, R_zero]
    omega
  · rw [R_pos q]
    refine Int.not_lt.mp fun z => ?_
    have := (M_iff h r (M P S a b r - 1)).mpr (by omega)
    omega
theorem GM (h : Hv P S a b) (r : Int) : r ≤ G P S a b (M P S a b r) := (M_iff h r _).mp (Int.le_refl _)
theorem right_std (h : Hv P S a b) {r : Int} (r1 : 1 ≤ r) (r2 : r ≤ S - 1) : Std P S a b (M P S a b r) (M P S a b r + r) :=
  std_of h (M_nn h r1) (M_le h r2) (by have := RM h r1; omega) (GM h r)
theorem right_first (h : Hv P S a b) {l k : Int} (x : Std P S a b l k) : M P S a b (k - l) ≤ l := by
  rw [M_iff h]
  have := x.hi
  omega
end
end K16M
end
section
set_option Elab.async false
set_option linter.all false
set_option maxRecDepth 100000
set_option maxHeartbeats 4000000
namespace K16
open PySem PySem.Spec L2 L2H Dn K12M
open PyProof.Rows hiding St
abbrev tt : O := .d (.bl true)
abbrev ff : O := .d (.bl false)
def isInt : D → Bool
  | .int _ => true
  | _ => false
def below : D → Int → Bool
  | .int i, l => decide (0 ≤ i) && decide (i < l)
  | _, _ => false
theorem e_is_integer (d : D) : D_is_integer [.d d] = .ok (.d (.bl (isInt d))) [some (.d d)] := by
  cases d <;> simp [D_is_integer, m_is_integer, isInt, tyN]
theorem e_is_number (d : D) : D_is_number [.d d] = .ok (.d (.bl (match d with | .int i => decide (0 ≤ i) | _ => false))) [some (.d d)] := by
  have e := e_is_integer d
  cases d <;> simp [D_is_number, m_is_number, e, isInt] at e ⊢ <;> simp [e]
theorem e_is_below (d : D) (l : Int) : D_d_is_below [.d d, N l] = .ok (.d (.bl (below d l))) [some (.d d), some (N l)] := by
  have e := e_is_number d
  cases d with
  | int i =>
    by_cases h : 0 ≤ i
    · simp [D_d_is_below, m_d_is_below, below, h] at e ⊢
      simp [e]
    · simp [D_d_is_below, m_d_is_below, below, h] at e ⊢
      simp [e]
  | _ => simp [D_d_is_below, m_d_is_below, below] at e ⊢ <;> simp [e]
/-- no product of sizes is above it -/
def lim : Int := ((2 ^ 400 : Nat) : Int)
/-- sizes as the law draws them -/
structure Sz (xs : List Int) : Prop where
  ok : Ok xs
  le : prodL xs ≤ lim
  len : xs.length ≤ 80
theorem Sz.pos {xs : List Int} (h : Sz xs) : 1 ≤ prodL xs := prodL_pos h.ok
theorem lim_big : lim * 1000 ≤ big := by unfold big lim; decide +kernel
theorem lim_pos : 1000 ≤ lim := by unfold lim; decide +kernel
theorem le_mul1 {a b : Int} (h : 1 ≤ b) (ha : 0 ≤ a) : a ≤ a * b := by
  have := Int.mul_le_mul_of_nonneg_left h ha
  omega
theorem Sz.part {a b c : List Int} (h : Sz (a ++ b ++ c)) : Sz b ∧ prodL b ≤ prodL (a ++ b ++ c) := by
  have o1 := prodL_pos h.ok.left.left
  have o2 := prodL_pos h.ok.left.right
  have o3 := prodL_pos h.ok.right
  have hl := h.le
  have hn := h.len
  rw [prodL_append, prodL_append] at *
  have e1 : prodL b ≤ prodL a * prodL b := by rw [Int.mul_comm]; exact le_mul1 o1 (by omega)
  have e2 := le_mul1 (a := prodL a * prodL b) o3 (by omega)
  exact ⟨⟨h.ok.left.right, by omega, by simp at hn; omega⟩, by omega⟩
theorem Sz.take {xs : List Int} (h : Sz xs) (k : Nat) : Sz (xs.take k) ∧ prodL (xs.take k) ≤ prodL xs := by
  have := Sz.part (a := []) (b := xs.take k) (c := xs.drop k) (by simpa using h)
  simpa using this
theorem Sz.drop {xs : List Int} (h : Sz xs) (k : Nat) : Sz (xs.drop k) ∧ prodL (xs.drop k) ≤ prodL xs := by
  have := Sz.part (a := xs.take k) (b := xs.drop k) (c := []) (by simpa using h)
  simpa using this
theorem mul_ok {a b : Int} (ha : -(lim * 1000) ≤ a ∧ a ≤ lim * 1000) (hb : -(lim * 1000) ≤ b ∧ b ≤ lim * 1000) : cMul a b = true := by
  have := lim_big
  exact cMul_big (by omega) (by omega) (by omega) (by omega)
theorem div_ok {a b : Int} (h0 : 0 < b) (hb : b ≤ lim * 1000) : cDiv a b = true := by
  have := lim_big
  exact cDiv_big h0 (by omega)
theorem prod_loop (xs : List Int) : ∀ (l : List Int) (a : Option O) (v : Option O), Sz (l ++ xs) → ∃ v', forL (gN 2) (mAug 1 oMul (mN 2)) (I xs) [a, some (N (prodL l)), v] = .nx [a, some (N (prodL (l ++ xs))), v'] := by
  induction xs with
  | nil =>
    intro l a v h
    exact ⟨v, by simp⟩
  | cons x r ih =>
    intro l a v h
    have h2 : Sz ((l ++ [x]) ++ r) := by simpa using h
    obtain ⟨v', e⟩ := ih (l ++ [x]) a (some (N x)) h2
    have hb := h.le
    obtain ⟨s1, p1⟩ := Sz.part (a := []) (b := l) (c := x :: r) (by simpa using h)
    obtain ⟨s2, p2⟩ := Sz.part (a := l) (b := [x]) (c := r) (by simpa using h)
    have o1 := s1.pos
    have o2 := s2.pos
    simp [prodL] at p1 p2 o2
    have hc : cMul (prodL l) x = true := mul_ok (by omega) (by omega)
    rw [prodL_snoc] at e
    refine ⟨v', ?_⟩
    simp [forL_cons, hc]
    simpa using e
theorem e_d_product {xs : List Int} (h : Sz xs) : D_d_product [T xs] = .ok (N (prodL xs)) [some (T xs)] := by
  obtain ⟨v', e⟩ := prod_loop xs [] (some (T xs)) none (by simpa using h)
  simp [prodL] at e
  simp [D_d_product, m_d_product, e]
theorem lprod_loop (xs : List Int) : ∀ (l : List Int) (a : Option O) (v : Option O), Sz (l ++ xs) → ∃ v', forL (gN 2) (mSet 1 (mOp oMul [.nm 1, .nm 2])) (I xs) [a, some (N (prodL l)), v] = .nx [a, some (N (prodL (l ++ xs))), v'] := by
  induction xs with
  | nil =>
    intro l a v h
    exact ⟨v, by simp⟩
  | cons x r ih =>
    intro l a v h
    have h2 : Sz ((l ++ [x]) ++ r) := by simpa using h
    obtain ⟨v', e⟩ := ih (l ++ [x]) a (some (N x)) h2
    have hb := h.le
    obtain ⟨s1, p1⟩ := Sz.part (a := []) (b := l) (c := x :: r) (by simpa using h)
    obtain ⟨s2, p2⟩ := Sz.part (a := l) (b := [x]) (c := r) (by simpa using h)
    have o1 := s1.pos
    have o2 := s2.pos
    simp [prodL] at p1 p2 o2
    have hc : cMul (prodL l) x = true := mul_ok (by omega) (by omega)
    rw [prodL_snoc] at e
    refine ⟨v', ?_⟩
    simp [forL_cons, hc]
    simpa using e
theorem e_law_product {xs : List Int} (h : Sz xs) : D__law_product [T xs] = .ok (N (prodL xs)) [some (T xs)] := by
  obtain ⟨v', e⟩ := lprod_loop xs [] (some (T xs)) none (by simpa using h)
  simp [prodL] at e
  simp [D__law_product, m__law_product, e]
theorem e_c_product {xs : List Int} (h : Sz xs) : D_c_product [T xs] = .ok (N (prodL xs)) [some (T xs)] := by
  obtain ⟨v', e⟩ := lprod_loop xs [] (some (T xs)) none (by simpa using h)
  simp [prodL] at e
  simp [D_c_product, m_c_product, e]
theorem cut_I (xs : List Int) : Dn.cutD (I xs) none (some ((xs.length : Int) - 1)) = I xs.dropLast := by
  cases xs with
  | nil => rfl
  | cons x r =>
    have e : (((x :: r).length : Int) - 1) = ((r.length : Nat) : Int) := by simp
    rw [e, cutD_hd, I_take]
    congr 1
    rw [List.dropLast_eq_take]
    simp
theorem cuts_loop (xs : List Int) : ∀ (l acc : List Int) (b : Int) (a v : Option O), Sz (l ++ xs) → acc.length + xs.length ≤ 1000 → ∃ b' v', forL (gN 4) (mSeq (mSet 1 (mOp oMul [.nm 1, .nm 4])) (mSeq (mSet 2 (mOp oDiv [.nm 2, .nm 4])) (mExpr (mMut 3 fApp [.ex (mOp oSub [.ex (mOp oPlus [.nm 1, .nm 2]), .ex (mC (.int 1))])])))) (I xs) [a, some (N (prodL l)), some (N b), some (.l ((I acc).map O.d)), v] = .nx [a, some (N (prodL (l ++ xs))), some (N b'), some (.l ((I (acc ++ cutsP (prodL l) b xs)).map O.d)), v'] := by
  induction xs with
  | nil =>
    intro l acc b a v h hl
    exact ⟨b, v, by simp [cutsP]⟩
  | cons x r ih =>
    intro l acc b a v h hl
    have h2 : Sz ((l ++ [x]) ++ r) := by simpa using h
    rw [List.length_cons] at hl
    obtain ⟨b', v', e⟩ := ih (l ++ [x]) (acc ++ [prodL l * x + b / x - 1]) (b / x) a (some (N x)) h2 (by rw [List.length_append, List.length_singleton]; omega)
    have hb := Sz.le h
    obtain ⟨s1, p1⟩ := Sz.part (a := []) (b := l) (c := x :: r) (by simpa using h)
    obtain ⟨s2, p2⟩ := Sz.part (a := l) (b := [x]) (c := r) (by simpa using h)
    have o1 := s1.pos
    have o2 := s2.pos
    have o3 : 2 ≤ x := s2.ok.head
    simp [prodL] at p1 p2 o2
    have hc : cMul (prodL l) x = true := mul_ok (by omega) (by omega)
    have hd : cDiv b x = true := div_ok (by omega) (by omega)
    rw [prodL_snoc] at e
    have hlen : acc.length < 16000000 := by omega
    refine ⟨b', v', ?_⟩
    simp [forL_cons, hc, hd, hlen]
    simpa [cutsP] using e
theorem dropLast_sz {xs : List Int} (h : Sz xs) : Sz xs.dropLast := by
  rw [List.dropLast_eq_take]
  exact (h.take _).1
theorem e_cuts_of {xs : List Int} (h : Sz xs) (hl : 2 ≤ xs.length) : D_cuts_of [T xs] = .ok (.t (I (cutsZ xs))) [some (T xs)] := by
  have h2 : ¬ ((xs.length : Int) < 2) := by omega
  obtain ⟨b', v', e⟩ := cuts_loop xs.dropLast [] [] (prodL xs) (some (T xs)) none (by simpa using dropLast_sz h) (by have := h.len; simp; omega)
  simp [prodL] at e
  simp [D_cuts_of, m_cuts_of, h2, e_c_product h, cut_I, e]
  rfl
theorem fMin_of {ns : List Int} {m : Int} (h : IsMin m ns) : fMin ns = some (.int m) := by
  cases ns with
  | nil => cases h.1
  | cons x r =>
    obtain ⟨h1, h2, h3⟩ := minI_spec r x
    have g : IsMin (minI x r) (x :: r) := ⟨h1.elim (fun e => by rw [e]; exact List.mem_cons_self) (List.mem_cons_of_mem _), fun y hy => by
      rcases List.mem_cons.mp hy with rfl | hy
      · exact h2
      · exact h3 y hy⟩
    show some (D.int (minI x r)) = _
    rw [g.uniq h]
theorem findI_ex {x : Int} : ∀ {ns : List Int} {n : Nat}, x ∈ ns → ∃ j, findI x ns n = some j
  | y :: r, n, h => by
    unfold findI
    by_cases e : y = x
    · exact ⟨n, if_pos e⟩
    · rw [if_neg e]
      exact findI_ex ((List.mem_cons.mp h).resolve_left fun z => e z.symm)
/-- the first gap that has the least cut -/
def gapZ (xs : List Int) : Nat := ((findI (leastZ xs) (cutsZ xs) 0).getD 0) + 1
theorem gapZ_some {xs : List Int} (h : Sz xs) (hl : 2 ≤ xs.length) : findI (leastZ xs) (cutsZ xs) 0 = some (gapZ xs - 1) := by
  obtain ⟨j, e⟩ := findI_ex (n := 0) (leastZ_min h.ok hl).1
  unfold gapZ
  rw [e]
  rfl
theorem e_cut_gap {xs : List Int} (h : Sz xs) (hl : 2 ≤ xs.length) : D_cut_gap [T xs] = .ok (N (gapZ xs)) [some (T xs)] := by
  have e := e_cuts_of h hl
  have g : 1 ≤ gapZ xs := by unfold gapZ; omega
  simp [D_cut_gap, m_cut_gap, e, oTIdx, oMinA, fMin_of (leastZ_min h.ok (by omega)), gapZ_some h (by omega)]
  omega
end K16
end
section
set_option Elab.async false
set_option linter.all false
set_option maxRecDepth 100000
set_option maxHeartbeats 4000000
namespace K16
open PySem PySem.Spec L2 L2H Dn K12M
open PyProof.Rows hiding St
theorem cutD_lo (xs : List D) (k : Nat) : Dn.cutD xs (some (k : Int)) none = xs.drop k := by
  unfold Dn.cutD
  rw [HT.sIx_none, HT.sIx_nat]
  by_cases h : k ≤ xs.length
  · rw [Nat.min_eq_left h, List.take_of_length_le (by rw [List.length_drop]; omega)]
  · rw [Nat.min_eq_right (by omega), Nat.sub_self, List.take_zero, List.drop_eq_nil_of_le (by omega)]
theorem cut_next (xs : List Int) (p : Nat) : Dn.cutD (I xs) (some ((p : Int) + 1)) none = I (xs.drop (p + 1)) := by
  rw [show ((p : Int) + 1) = ((p + 1 : Nat) : Int) by omega, cutD_lo, I_drop]
theorem cut_upto (xs : List Int) (p : Nat) : Dn.cutD (I xs) none (some ((p : Int) + 1)) = I (xs.take (p + 1)) := by
  rw [show ((p : Int) + 1) = ((p + 1 : Nat) : Int) by omega, cutD_hd, I_take]
theorem getD_get {u : List Int} {p : Nat} (h : p < u.length) : u[p]? = some (u.getD p 0) := by
  rw [List.getD_eq_getElem?_getD, List.getElem?_eq_getElem h]
  rfl
def lft (xs : List Int) (j : Nat) : Int := prodL (xs.take j)
def rgt (xs : List Int) (j : Nat) : Int := prodL (xs.drop j)
def cutA (xs : List Int) (j : Nat) : Int := lft xs j + rgt xs j
/-- the first least cut among the gaps below k -/
structure Bst (xs : List Int) (j k : Nat) : Prop where
  j1 : 1 ≤ j
  jk : j < k
  lt : ∀ i, 1 ≤ i → i < j → cutA xs j < cutA xs i
  le : ∀ i, 1 ≤ i → i < k → cutA xs j ≤ cutA xs i
theorem Bst.one {xs : List Int} {j j' k : Nat} (h : Bst xs j k) (g : Bst xs j' k) : j = j' := by
  have key : ∀ {j j' : Nat}, Bst xs j k → Bst xs j' k → ¬ j < j' := fun {j j'} h g q => by
    have := g.lt j h.j1 q
    have := h.le j' g.j1 g.jk
    omega
  have := key h g
  have := key g h
  omega
theorem gap_bst {xs : List Int} (h : Sz xs) (hl : 2 ≤ xs.length) : Bst xs (gapZ xs) xs.length := by
  have g := gapZ_some h hl
  have m := leastZ_min h.ok hl
  have g1 : 1 ≤ gapZ xs := by unfold gapZ; omega
  obtain ⟨-, f1, f2⟩ := findI_spec g
  rw [Nat.sub_zero] at f1 f2
  have gl : gapZ xs - 1 < (cutsZ xs).length := (List.getElem?_eq_some_iff.mp f1).1
  rw [cutsZ_len] at gl
  have at' : ∀ i, 1 ≤ i → i < xs.length → (cutsZ xs)[i - 1]? = some (cutA xs i - 1) := fun i i1 i2 => by
    rw [cutsZ_get h.ok (by omega), show i - 1 + 1 = i by omega]
    rfl
  have ag := at' _ g1 (by omega)
  rw [ag] at f1
  injection f1 with f1
  have le : ∀ i, 1 ≤ i → i < xs.length → cutA xs (gapZ xs) ≤ cutA xs i := fun i i1 i2 => by
    have := m.2 _ (List.mem_of_getElem? (at' i i1 i2))
    omega
  refine ⟨g1, by omega, fun i i1 i2 => ?_, le⟩
  obtain ⟨z, e, ne⟩ := f2 (i - 1) (by omega)
  rw [at' i i1 (by omega)] at e
  injection e with e
  have := le i i1 (by omega)
  omega
/-! the law's halves -/
abbrev hvO (P S a b : Int) : O := .d (.tup [.int P, .int S, .int a, .int b])
def itm (xs : List Int) (j : Nat) : Int := xs.getD j 0
def hvD (xs : List Int) (j : Nat) : O := hvO (lft xs j) (rgt xs j) (itm xs (j - 1)) (itm xs j)
theorem hv_eq (P S a b : Int) : oEq false [hvO P S a b, .d (.tup [])] = some (.d (.bl false)) := by
  exact (oEq_TT false [P, S, a, b] []).trans (by simp)
def bH : MS := mSeq (mSet 3 (mCall D__law_product [.ex (mSlice (.nm 0) none (some (mN 2)))]))
  (mSeq (mSet 4 (mCall D__law_product [.ex (mSlice (.nm 0) (some (mN 2)) none)]))
  (mIf (mTOr (mB (mOp (oEq false) [.nm 1, .ex (mAll oTup [])])) (mB (mOp oLt [.ex (mOp oPlus [.nm 3, .nm 4]), .ex (mOp oPlus [.ex (mOp oIx [.nm 1, .ex (mC (.int 0))]), .ex (mOp oIx [.nm 1, .ex (mC (.int 1))])])]))) (mSet 1 (mAll oTup [.ex (mN 3), .ex (mN 4), .ex (mOp oIx [.nm 0, .ex (mOp oSub [.nm 2, .ex (mC (.int 1))])]), .ex (mOp oIx [.nm 0, .nm 2])])) (mPass)))
theorem hv0 (P S a b : Int) : atO (hvO P S a b) (0 : Int) = some (.int P) := rfl
theorem hv1 (P S a b : Int) : atO (hvO P S a b) (1 : Int) = some (.int S) := rfl
theorem hv2 (P S a b : Int) : atO (hvO P S a b) (2 : Int) = some (.int a) := rfl
theorem hv3 (P S a b : Int) : atO (hvO P S a b) (3 : Int) = some (.int b) := rfl
theorem h_facts {xs : List Int} (h : Sz xs) {q : Nat} (hq : q + 1 < xs.length) : xs[q]? = some (itm xs q) ∧ atO (T xs) ((q : Int) + 1) = some (.int (itm xs (q + 1))) ∧ D__law_product [T (xs.take (q + 1))] = .ok (N (lft xs (q + 1))) [some (T (xs.take (q + 1)))] ∧ D__law_product [T (xs.drop (q + 1))] = .ok (N (rgt xs (q + 1))) [some (T (xs.drop (q + 1)))] := by
  refine ⟨getD_get (by omega), ?_, e_law_product (h.take _).1, e_law_product (h.drop _).1⟩
  have := getD_get hq
  rw [show ((q : Int) + 1) = ((q + 1 : Nat) : Int) by omega]
  show atI (I xs) ((q + 1 : Nat) : Int) = _
  rw [Dn.atI_nat, I_get, this]
  rfl
theorem hv_step {xs : List Int} (h : Sz xs) {q j : Nat} (hq : q + 1 < xs.length) (hj : Bst xs j (q + 1)) (w3 w4 : Option O) :
    ∃ j', Bst xs j' (q + 2) ∧ bH [some (T xs), some (hvD xs j), some (N ((q : Int) + 1)), w3, w4] = .nx [some (T xs), some (hvD xs j'), some (N ((q : Int) + 1)), some (N (lft xs (q + 1))), some (N (rgt xs (q + 1)))] := by
  obtain ⟨x1, x2, p1, p2⟩ := h_facts h hq
  have c1 := cut_upto xs q
  have c2 := cut_next xs q
  have ne := hv_eq (lft xs j) (rgt xs j) (itm xs (j - 1)) (itm xs j)
  have a0 := hv0 (lft xs j) (rgt xs j) (itm xs (j - 1)) (itm xs j)
  have a1 := hv1 (lft xs j) (rgt xs j) (itm xs (j - 1)) (itm xs j)
  have split : ∀ i, i < q + 2 → i < q + 1 ∨ i = q + 1 := fun i hi => by omega
  by_cases z : lft xs (q + 1) + rgt xs (q + 1) < lft xs j + rgt xs j
  · refine ⟨q + 1, ⟨by omega, by omega, fun i i1 i2 => ?_, fun i i1 i2 => ?_⟩, ?_⟩
    · have := hj.le i i1 i2
      unfold cutA at *
      omega
    · rcases split i i2 with i3 | rfl
      · have := hj.le i i1 i3
        unfold cutA at *
        omega
      · exact Int.le_refl _
    · have e : hvD xs (q + 1) = hvO (lft xs (q + 1)) (rgt xs (q + 1)) (itm xs q) (itm xs (q + 1)) := rfl
      have e' : hvD xs j = hvO (lft xs j) (rgt xs j) (itm xs (j - 1)) (itm xs j) := rfl
      rw [e, e']
      generalize itm xs (j - 1) = g3 at *
      generalize itm xs j = g4 at *
      generalize lft xs j = L0 at *
      generalize rgt xs j = R0 at *
      generalize xs.take (q + 1) = t1 at *
      generalize xs.drop (q + 1) = t2 at *
      generalize itm xs (q + 1) = g1 at *
      generalize itm xs q = g2 at *
      simp [bH, c1, c2, p1, p2, ne, a0, a1, z, x1, x2]
  · refine ⟨j, ⟨hj.j1, by have := hj.jk; omega, hj.lt, fun i i1 i2 => ?_⟩, ?_⟩
    · rcases split i i2 with i3 | rfl
      · exact hj.le i i1 i3
      · unfold cutA
        omega
    · have e' : hvD xs j = hvO (lft xs j) (rgt xs j) (itm xs (j - 1)) (itm xs j) := rfl
      rw [e']
      generalize itm xs (j - 1) = g3 at *
      generalize itm xs j = g4 at *
      generalize lft xs j = L0 at *
      generalize rgt xs j = R0 at *
      generalize xs.take (q + 1) = t1 at *
      generalize xs.drop (q + 1) = t2 at *
      simp [bH, c1, c2, p1, p2, ne, a0, a1, z]
end K16
end
section
set_option Elab.async false
set_option linter.all false
set_option maxRecDepth 100000
set_option maxHeartbeats 4000000
namespace K16
open PySem PySem.Spec L2 L2H Dn K12M K16M
open PyProof.Rows hiding St
theorem rg62 {r : Int} (h0 : 0 ≤ r) (h1 : r ≤ 1000000) : (-4611686018427387904 : Int) ≤ r ∧ r < 4611686018427387904 := by omega
theorem rgD_from (k n : Nat) : rgD (k : Int) n = (List.range' k n).map fun (i : Nat) => D.int i := by
  unfold rgD
  rw [List.range'_eq_map_range, List.map_map]
  refine List.map_congr_left fun i _ => ?_
  show D.int ((k : Int) + (i : Int)) = D.int ((k + i : Nat) : Int)
  rw [Int.natCast_add]
theorem hv_loop {xs : List Int} (h : Sz xs) : ∀ (m q j : Nat) (w2 w3 w4 : Option O), Bst xs j (q + 1) → q + 1 + m ≤ xs.length →
    ∃ j' w2' w3' w4', Bst xs j' (q + 1 + m) ∧ forL (gN 2) bH ((List.range' (q + 1) m).map fun (i : Nat) => D.int i) [some (T xs), some (hvD xs j), w2, w3, w4] = .nx [some (T xs), some (hvD xs j'), w2', w3', w4']
  | 0, q, j, w2, w3, w4, hj, _ => ⟨j, w2, w3, w4, hj, rfl⟩
  | m + 1, q, j, w2, w3, w4, hj, hm => by
    obtain ⟨j1, b1, e1⟩ := hv_step h (q := q) (by omega) hj w3 w4
    obtain ⟨j', w2', w3', w4', b2, e2⟩ := hv_loop h m (q + 1) j1 (some (N ((q : Int) + 1))) (some (N (lft xs (q + 1)))) (some (N (rgt xs (q + 1)))) b1 (by omega)
    refine ⟨j', w2', w3', w4', by rw [show q + 1 + (m + 1) = q + 1 + 1 + m by omega]; exact b2, ?_⟩
    rw [List.range'_succ, List.map_cons, forL_cons, ← e2]
    have g : gN 2 [some (T xs), some (hvD xs j), w2, w3, w4] (D.int ((q + 1 : Nat) : Int)) = some [some (T xs), some (hvD xs j), some (N ((q : Int) + 1)), w3, w4] := by
      rw [show ((q + 1 : Nat) : Int) = (q : Int) + 1 by omega]
      rfl
    rw [g, forG_s, e1, forB_nx]
theorem itm_get {xs : List Int} {p : Nat} (h : p < xs.length) : xs[p]? = some (itm xs p) := getD_get h
theorem e_law_halves {xs : List Int} (h : Sz xs) (hl : 2 ≤ xs.length) : D__law_halves [T xs] = .ok (hvD xs (gapZ xs)) [some (T xs)] := by
  obtain ⟨m, hm⟩ : ∃ m, xs.length = m + 2 := ⟨xs.length - 2, by omega⟩
  have hlen := h.len
  have b0 : Bst xs 1 (1 + 1) := ⟨by omega, by omega, fun i i1 i2 => by omega, fun i i1 i2 => by rw [show i = 1 by omega]; exact Int.le_refl _⟩
  obtain ⟨j', w2', w3', w4', b1, e1⟩ := hv_loop h m 1 1 (some (N 1)) (some (N (lft xs 1))) (some (N (rgt xs 1))) b0 (by omega)
  have bg := gap_bst h hl
  rw [show 1 + 1 + m = xs.length by omega] at b1
  rw [Bst.one b1 bg] at e1
  have c1 : Dn.cutD (I xs) none (some 1) = I (xs.take 1) := cut_upto xs 0
  have c2 : Dn.cutD (I xs) (some 1) none = I (xs.drop 1) := cut_next xs 0
  have p1 : D__law_product [T (xs.take 1)] = .ok (N (lft xs 1)) [some (T (xs.take 1))] := e_law_product (h.take _).1
  have p2 : D__law_product [T (xs.drop 1)] = .ok (N (rgt xs 1)) [some (T (xs.drop 1))] := e_law_product (h.drop _).1
  have x1 := itm_get (xs := xs) (p := 0) (by omega)
  have x2 := itm_get (xs := xs) (p := 1) (by omega)
  have tq : oEq false [.d (.tup []), .d (.tup [])] = some (.d (.bl true)) := by rfl
  have first : bH [some (T xs), some (.d (.tup [])), some (N 1), none, none] = .nx [some (T xs), some (hvD xs 1), some (N 1), some (N (lft xs 1)), some (N (rgt xs 1))] := by
    have e : hvD xs 1 = hvO (lft xs 1) (rgt xs 1) (itm xs 0) (itm xs 1) := rfl
    rw [e]
    generalize xs.take 1 = t1 at *
    generalize xs.drop 1 = t2 at *
    simp [bH, c1, c2, p1, p2, tq, x1, x2]
  have hr : (((m + 2 : Nat) : Int) - 1).toNat = m + 1 := by omega
  have rr := rgD_from 1 (m + 1)
  have whole : forL (gN 2) bH (rgD ((1 : Nat) : Int) (m + 1)) [some (T xs), some (.d (.tup [])), none, none, none] = .nx [some (T xs), some (hvD xs (gapZ xs)), w2', w3', w4'] := by
    rw [rr, List.range'_succ, List.map_cons, forL_cons, ← e1]
    have g : gN 2 [some (T xs), some (.d (.tup [])), none, none, none] (D.int ((1 : Nat) : Int)) = some [some (T xs), some (.d (.tup [])), some (N 1), none, none] := rfl
    rw [g, forG_s, first, forB_nx]
  have c3 := rg62 (r := (xs.length : Int)) (by omega) (by omega)
  have hr2 : ((xs.length : Int) - 1).toNat = m + 1 := by omega
  rw [← hr2] at whole
  obtain ⟨Q, hQ⟩ : ∃ Q, hvD xs (gapZ xs) = O.d Q := ⟨_, rfl⟩
  rw [hQ] at whole ⊢
  unfold bH at whole
  simp at whole
  simp [D__law_halves, m__law_halves, c3, whole]
theorem I_rv (ns : List Int) : toRv (T ns) = some (T ns.reverse) := by
  show some (O.d (.tup (I ns).reverse)) = _
  rw [I_reverse]
theorem Sz.rev {xs : List Int} (h : Sz xs) : Sz xs.reverse := ⟨fun y m => h.ok y (List.mem_reverse.mp m), by rw [prodL_reverse]; exact h.le, by rw [List.length_reverse]; exact h.len⟩
/-- what the split of sizes is -/
structure Gp (xs ls rs : List Int) (P S a b : Int) : Prop where
  sz : Sz xs
  two : 2 ≤ xs.length
  hv : Hv P S a b
  pl : P ≤ lim
  sl : S ≤ lim
  split : D_d_split [T xs] = .ok (.d (.tup [.tup (I ls), .tup (I rs), .int P, .int S, .int a, .int b])) [some (T xs)]
  halves : D__law_halves [T xs] = .ok (hvO P S a b) [some (T xs)]
theorem le_of_mul {c p s : Int} (hc : 0 < c) (h : c * p ≤ c * s) : p ≤ s := Int.le_of_mul_le_mul_left h hc
theorem Gp.of {xs : List Int} (h : Sz xs) (hl : 2 ≤ xs.length) : ∃ ls rs P S a b, Gp xs ls rs P S a b := by
  have bg := gap_bst h hl
  have e1 := e_law_halves h hl
  have g := e_cut_gap h hl
  obtain ⟨q, hq⟩ : ∃ q, gapZ xs = q + 1 := ⟨gapZ xs - 1, by have := bg.j1; omega⟩
  rw [hq] at bg e1 g
  have lt := bg.jk
  refine ⟨xs.take (q + 1), (xs.drop (q + 1)).reverse, lft xs (q + 1), rgt xs (q + 1), itm xs q, itm xs (q + 1), h, hl, ?_, ?_, ?_, ?_, e1⟩
  · have x1 := itm_get (xs := xs) (p := q) (by omega)
    have x2 := itm_get (xs := xs) (p := q + 1) (by omega)
    have m1 := h.ok _ (List.mem_of_getElem? x1)
    have m2 := h.ok _ (List.mem_of_getElem? x2)
    have t1 : lft xs (q + 1) = lft xs q * itm xs q := by
      unfold lft
      rw [List.take_succ, x1]
      exact prodL_snoc _ _
    have d1 : rgt xs q = itm xs q * rgt xs (q + 1) := by
      unfold rgt
      rw [List.drop_eq_getElem_cons (show q < xs.length by omega)]
      have : xs[q] = itm xs q := by
        have := x1
        rw [List.getElem?_eq_getElem (by omega)] at this
        injection this
      rw [this]
      rfl
    have t2 : lft xs (q + 1 + 1) = lft xs (q + 1) * itm xs (q + 1) := by
      unfold lft
      rw [List.take_succ, x2]
      exact prodL_snoc _ _
    have d2 : rgt xs (q + 1) = itm xs (q + 1) * rgt xs (q + 1 + 1) := by
      unfold rgt
      rw [List.drop_eq_getElem_cons (show q + 1 < xs.length by omega)]
      have : xs[q + 1] = itm xs (q + 1) := by
        have := x2
        rw [List.getElem?_eq_getElem (by omega)] at this
        injection this
      rw [this]
      rfl
    have o1 : 1 ≤ lft xs q := (h.take q).1.pos
    have o2 : 1 ≤ rgt xs (q + 1 + 1) := (h.drop (q + 1 + 1)).1.pos
    have o3 : 1 ≤ lft xs (q + 1) := (h.take (q + 1)).1.pos
    have o4 : 1 ≤ rgt xs (q + 1) := (h.drop (q + 1)).1.pos
    refine ⟨m1, m2, ⟨lft xs q, o1, t1, ?_⟩, ⟨rgt xs (q + 1 + 1), o2, by rw [d2, Int.mul_comm], ?_⟩⟩
    · by_cases z : q = 0
      · subst z
        show prodL (xs.take 0) ≤ _
        rw [List.take_zero]
        exact o4
      · have := bg.le q (by omega) (by omega)
        unfold cutA at this
        rw [t1, d1] at this
        generalize lft xs q = p at *
        generalize itm xs q = y at *
        generalize rgt xs (q + 1) = s at *
        refine le_of_mul (c := y - 1) (by omega) ?_
        rw [Int.sub_mul, Int.sub_mul, Int.one_mul, Int.one_mul, Int.mul_comm y p]
        omega
    · by_cases z : q + 1 + 1 = xs.length
      · show prodL (xs.drop (q + 1 + 1)) ≤ _
        rw [z, List.drop_length]
        exact o3
      · have := bg.le (q + 1 + 1) (by omega) (by omega)
        unfold cutA at this
        rw [t2, d2] at this
        generalize lft xs (q + 1) = p at *
        generalize itm xs (q + 1) = y at *
        generalize rgt xs (q + 1 + 1) = s at *
        refine le_of_mul (c := y - 1) (by omega) ?_
        rw [Int.sub_mul, Int.sub_mul, Int.one_mul, Int.one_mul, Int.mul_comm y p]
        omega
  · exact (h.take (q + 1)).1.le
  · exact (h.drop (q + 1)).1.le
  · have h2 : ¬ ((xs.length : Int) < 2) := by omega
    have c1 := cut_upto xs q
    have c2 := cut_next xs q
    have x1 := itm_get (xs := xs) (p := q) (by omega)
    have x2 : atI (I xs) ((q : Int) + 1) = some (.int (itm xs (q + 1))) := by
      have := itm_get (xs := xs) (p := q + 1) (by omega)
      show atI (I xs) ((q + 1 : Nat) : Int) = _
      rw [Dn.atI_nat, I_get, this]
      rfl
    have p1 := e_d_product (h.take (q + 1)).1
    have p2 := e_d_product (h.drop (q + 1)).1.rev
    have rv := I_rv (xs.drop (q + 1))
    rw [prodL_reverse] at p2
    have eP : prodL (xs.take (q + 1)) = lft xs (q + 1) := rfl
    have eS : prodL (xs.drop (q + 1)) = rgt xs (q + 1) := rfl
    rw [eP] at p1
    rw [eS] at p2
    generalize (xs.drop (q + 1)).reverse = R2 at *
    generalize xs.take (q + 1) = t1 at *
    generalize xs.drop (q + 1) = t2 at *
    generalize itm xs (q + 1) = g1 at *
    generalize itm xs q = g2 at *
    simp [D_d_split, m_d_split, h2, g, c1, c2, rv, p1, p2, x1, x2]
end K16
end
section
set_option Elab.async false
set_option linter.all false
set_option maxRecDepth 100000
set_option maxHeartbeats 4000000
namespace K16
open PySem PySem.Spec L2 L2H Dn K12M K16M
open PyProof.Rows hiding St
/-- the bounds in one place -/
structure Bd (P S a b : Int) : Prop where
  hv : Hv P S a b
  pl : P ≤ lim
  sl : S ≤ lim
theorem Gp.bd {xs ls rs : List Int} {P S a b : Int} (h : Gp xs ls rs P S a b) : Bd P S a b := ⟨h.hv, h.pl, h.sl⟩
abbrev spO (ls rs : List Int) (P S a b : Int) : O := .d (.tup [.tup (I ls), .tup (I rs), .int P, .int S, .int a, .int b])
theorem sp_cut (x y z w u v : D) : Dn.cutD [x, y, z, w, u, v] (some 2) none = [z, w, u, v] := by rfl
theorem e_mesh_left {ls rs : List Int} {P S a b r : Int} (h : Bd P S a b) (r0 : 0 ≤ r) (r1 : r ≤ S) : D_d_mesh_left [spO ls rs P S a b, N r] = .ok (N (M P S a b r)) [some (spO ls rs P S a b), some (N r)] := by
  have := h.hv.a2
  have := h.hv.b2
  have := h.hv.aP
  have := h.hv.bS
  have := h.pl
  have := h.sl
  have lp := lim_pos
  have hc : cMul r a = true := mul_ok (by omega) (by omega)
  have hd : cDiv (S - 1 - r) b = true := div_ok (by omega) (by omega)
  simp [D_d_mesh_left, m_d_mesh_left, sp_cut, hc, hd, min_if, M]
theorem e_mesh_rights {ls rs : List Int} {P S a b l : Int} (h : Bd P S a b) (l0 : 0 ≤ l) (l1 : l ≤ P) : D_d_mesh_rights [spO ls rs P S a b, N l] = .ok (N (R P S a b l)) [some (spO ls rs P S a b), some (N l)] := by
  have := h.hv.a2
  have := h.hv.b2
  have := h.hv.aP
  have := h.hv.bS
  have := h.pl
  have := h.sl
  have lp := lim_pos
  by_cases q : l = 0
  · subst q
    rw [R_zero]
    simp [D_d_mesh_rights, m_d_mesh_rights]
  · have hc : cMul b (P - l) = true := mul_ok (by omega) (by omega)
    have hd : cDiv (l - 1) a = true := div_ok (by omega) (by omega)
    rw [R_pos q, G, show P - 1 - (l - 1) = P - l by omega]
    simp [D_d_mesh_rights, m_d_mesh_rights, q, sp_cut, hc, hd, max_if]
def cCnt : Dn.Env → Rs Bool := mB (mOp oLt [.nm 2, .nm 3])
def bCnt : MS := mSeq (mSet 4 (mOp oDiv [.ex (mOp oPlus [.ex (mOp oPlus [.nm 2, .nm 3]), .ex (mC (.int 1))]), .ex (mC (.int 2))]))
  (mIf (mB (mOp oLe [.ex (mOp oPlus [.nm 4, .ex (mCall D_d_mesh_rights [.nm 0, .nm 4])]), .nm 1])) (mSet 2 (mN 4)) (mSet 3 (mOp oSub [.nm 4, .ex (mC (.int 1))])))
theorem cnt_loop {ls rs : List Int} {P S a b k : Int} (h : Bd P S a b) : ∀ (n m : Nat) (lo hi : Int) (w4 : Option O), n < m → 0 ≤ lo → lo ≤ hi → hi ≤ P - 1 → hi - lo < ((2 ^ n : Nat) : Int) → lo + R P S a b lo ≤ k → k ≤ hi + G P S a b hi →
    ∃ l w4', Std P S a b l k ∧ loopW cCnt bCnt m [some (spO ls rs P S a b), some (N k), some (N lo), some (N hi), w4] = .nx [some (spO ls rs P S a b), some (N k), some (N l), some (N l), w4']
  | n, m, lo, hi, w4, hm, l0, lh, hP, hn, e0, e1 => by
    obtain ⟨m, rfl⟩ : ∃ m', m = m' + 1 := ⟨m - 1, by omega⟩
    have pl := h.pl
    have lp := lim_pos
    rw [loopW_succ]
    by_cases q : lo < hi
    · match n, hn, hm with
      | 0, hn, _ => exact absurd hn (by simp; omega)
      | n + 1, hn, hm =>
      have hd : cDiv (lo + hi + 1) 2 = true := div_ok (by omega) (by omega)
      obtain ⟨mid, hmid⟩ : ∃ mid, mid = (lo + hi + 1) / 2 := ⟨_, rfl⟩
      have m1 : lo < mid ∧ mid ≤ hi := by omega
      have er := e_mesh_rights (ls := ls) (rs := rs) (l := mid) h (by omega) (by omega)
      have p2 : ((2 ^ (n + 1) : Nat) : Int) = 2 * ((2 ^ n : Nat) : Int) := by
        rw [Nat.pow_succ, Int.natCast_mul, Int.mul_comm]
        rfl
      rw [p2] at hn
      obtain ⟨W, hW⟩ : ∃ W : Int, W = ((2 ^ n : Nat) : Int) := ⟨_, rfl⟩
      rw [← hW] at hn
      have b1 : hi - mid < W := by omega
      have b2 : mid - 1 - lo < W := by omega
      rw [hW] at b1 b2
      by_cases z : mid + R P S a b mid ≤ k
      · obtain ⟨l, w4', st, ih⟩ := cnt_loop (ls := ls) (rs := rs) (k := k) h n m mid hi (some (N mid)) (by omega) (by omega) (by omega) hP b1 z e1
        refine ⟨l, w4', st, ?_⟩
        rw [← ih]
        simp [cCnt, bCnt, q, hd, ← hmid, er, z]
      · have g : mid + R P S a b mid = mid - 1 + G P S a b (mid - 1) + 1 := by rw [R_pos (by omega)]; omega
        obtain ⟨l, w4', st, ih⟩ := cnt_loop (ls := ls) (rs := rs) (k := k) h n m lo (mid - 1) (some (N mid)) (by omega) l0 (by omega) (by omega) b2 e0 (by omega)
        refine ⟨l, w4', st, ?_⟩
        rw [← ih]
        simp [cCnt, bCnt, q, hd, ← hmid, er, z]
    · have e : lo = hi := by omega
      subst e
      refine ⟨lo, w4, ⟨l0, hP, e0, e1⟩, ?_⟩
      simp [cCnt]
theorem sp0 (x y z w u v : D) : atO (.d (.tup [x, y, z, w, u, v])) (2 : Int) = some z := by rfl
theorem sp1 (x y z w u v : D) : atO (.d (.tup [x, y, z, w, u, v])) (3 : Int) = some w := by rfl
theorem sp_len (x y z w u v : D) : Dn.cutD [x, y, z, w, u, v] (some 2) none = [z, w, u, v] := by rfl
theorem e_mesh_counts {ls rs : List Int} {P S a b : Int} {k : Nat} (h : Bd P S a b) (k1 : (k : Int) ≤ P + S - 2) : D_d_mesh_counts [spO ls rs P S a b, N k] = .ok (T [C P S a b k, k - C P S a b k]) [some (spO ls rs P S a b), some (N k)] := by
  have P2 := h.hv.P2
  have pl := h.pl
  have gt := G_top h.hv
  obtain ⟨l, w4', st, e⟩ := cnt_loop (ls := ls) (rs := rs) (k := (k : Int)) h 400 1000 0 (P - 1) none (by decide) (Int.le_refl _) (by omega) (Int.le_refl _) (by show P - 1 - 0 < lim; omega) (by rw [R_zero]; omega) (by omega)
  have ec := C_of h.hv k1 st
  rw [ec]
  unfold cCnt bCnt at e
  simp [D_d_mesh_counts, m_d_mesh_counts, fuel_d_mesh_counts_1, sp0, e]
/-! the asked functions -/
def refX (w : Str) : Exc := ⟨"NotUsable", [("at", .int (-1)), ("word", .str w)]⟩
theorem e_mesh_halves {xs ls rs : List Int} {P S a b : Int} (h : Gp xs ls rs P S a b) : D_d_mesh_halves [T xs] = .ok (spO ls rs P S a b) [some (T xs)] := by
  have h2 : ¬ ((xs.length : Int) < 2) := by have := h.two; omega
  have e := h.split
  simp [D_d_mesh_halves, m_d_mesh_halves, h2, e]
theorem e_mesh_short {xs : List Int} (h : xs.length < 2) : D_d_mesh_halves [T xs] = .exc (refX "inner") [some (T xs)] := by
  have h2 : ((xs.length : Int) < 2) := by omega
  simp [D_d_mesh_halves, m_d_mesh_halves, h2, refX]
theorem e_halves_of {xs ls rs : List Int} {P S a b : Int} (h : Gp xs ls rs P S a b) : D_halves_of [T xs] = .ok (hvO P S a b) [some (T xs)] := by
  have e := e_mesh_halves h
  simp [D_halves_of, m_halves_of, e, sp_cut]
theorem slA_x (k : AK) (l h : Option ME) (x : Exc) (e : Dn.Env) : slA k l h (Rs.exc x e) = Rs.exc x e := (rfl)
theorem e_halves_short {xs : List Int} (h : xs.length < 2) : D_halves_of [T xs] = .exc (refX "inner") [some (T xs)] := by
  have e := e_mesh_short h
  simp [D_halves_of, m_halves_of, e, slA_x]
theorem below_yes {i l : Int} (h0 : 0 ≤ i) (h1 : i < l) : below (.int i) l = true := by simp [below, h0, h1]
theorem e_comes {xs ls rs : List Int} {P S a b r : Int} (h : Gp xs ls rs P S a b) (r0 : 1 ≤ r) (r1 : r < S) : D_right_comes [T xs, N r] = .ok (N (M P S a b r)) [some (T xs), some (N r)] := by
  have e := e_mesh_halves h
  have eb := e_is_below (.int r) S
  rw [below_yes (by omega) r1] at eb
  have q : ¬ r = 0 := by omega
  have em := e_mesh_left (ls := ls) (rs := rs) (r := r) h.bd (by omega) (by omega)
  simp [D_right_comes, m_right_comes, e, sp1, eb, q, em]
theorem e_comes_bad {xs ls rs : List Int} {P S a b : Int} {d : D} (h : Gp xs ls rs P S a b) (hd : below d S = false ∨ d = .int 0) : D_right_comes [T xs, .d d] = .exc (refX "right") [some (T xs), some (.d d)] := by
  have e := e_mesh_halves h
  have eb := e_is_below d S
  have S2 := h.hv.S2
  rcases hd with hd | rfl
  · rw [hd] at eb
    simp [D_right_comes, m_right_comes, e, sp1, eb, refX]
  · rw [below_yes (by omega) (by omega)] at eb
    simp [D_right_comes, m_right_comes, e, sp1, eb, refX]
theorem e_comes_short {xs : List Int} {d : D} (h : xs.length < 2) : D_right_comes [T xs, .d d] = .exc (refX "inner") [some (T xs), some (.d d)] := by
  have e := e_mesh_short h
  simp [D_right_comes, m_right_comes, e]
theorem e_ahead {xs ls rs : List Int} {P S a b l : Int} (h : Gp xs ls rs P S a b) (l0 : 0 ≤ l) (l1 : l < P) : D_rights_ahead [T xs, N l] = .ok (N (R P S a b l)) [some (T xs), some (N l)] := by
  have e := e_mesh_halves h
  have eb := e_is_below (.int l) P
  rw [below_yes (by omega) l1] at eb
  have em := e_mesh_rights (ls := ls) (rs := rs) (l := l) h.bd (by omega) (by omega)
  simp [D_rights_ahead, m_rights_ahead, e, sp0, eb, em]
theorem e_ahead_bad {xs ls rs : List Int} {P S a b : Int} {d : D} (h : Gp xs ls rs P S a b) (hd : below d P = false) : D_rights_ahead [T xs, .d d] = .exc (refX "left") [some (T xs), some (.d d)] := by
  have e := e_mesh_halves h
  have eb := e_is_below d P
  rw [hd] at eb
  simp [D_rights_ahead, m_rights_ahead, e, sp0, eb, refX]
theorem e_ahead_short {xs : List Int} {d : D} (h : xs.length < 2) : D_rights_ahead [T xs, .d d] = .exc (refX "inner") [some (T xs), some (.d d)] := by
  have e := e_mesh_short h
  simp [D_rights_ahead, m_rights_ahead, e]
theorem e_counts_at {xs ls rs : List Int} {P S a b : Int} {k : Nat} (h : Gp xs ls rs P S a b) (k1 : (k : Int) ≤ P + S - 2) : D_counts_at [T xs, N k] = .ok (T [C P S a b k, k - C P S a b k]) [some (T xs), some (N k)] := by
  have e := e_mesh_halves h
  have eb := e_is_below (.int k) (P + S - 1)
  rw [below_yes (by omega) (by omega)] at eb
  have em := e_mesh_counts (ls := ls) (rs := rs) h.bd k1
  simp [D_counts_at, m_counts_at, e, sp0, sp1, eb, em]
theorem e_counts_bad {xs ls rs : List Int} {P S a b : Int} {d : D} (h : Gp xs ls rs P S a b) (hd : below d (P + S - 1) = false) : D_counts_at [T xs, .d d] = .exc (refX "stage") [some (T xs), some (.d d)] := by
  have e := e_mesh_halves h
  have eb := e_is_below d (P + S - 1)
  rw [hd] at eb
  simp [D_counts_at, m_counts_at, e, sp0, sp1, eb, refX]
theorem e_counts_short {xs : List Int} {d : D} (h : xs.length < 2) : D_counts_at [T xs, .d d] = .exc (refX "inner") [some (T xs), some (.d d)] := by
  have e := e_mesh_short h
  simp [D_counts_at, m_counts_at, e]
theorem e_left_begins {xs ls rs : List Int} {P S a b l : Int} (h : Gp xs ls rs P S a b) (l0 : 0 ≤ l) (l1 : l < P) : D_left_begins [T xs, N l] = .ok (N (l + R P S a b l)) [some (T xs), some (N l)] := by
  have e := e_ahead h l0 l1
  simp [D_left_begins, m_left_begins, e]
theorem e_left_bad {xs ls rs : List Int} {P S a b : Int} {d : D} (h : Gp xs ls rs P S a b) (hd : below d P = false) : D_left_begins [T xs, .d d] = .exc (refX "left") [some (T xs), some (.d d)] := by
  have e := e_ahead_bad h hd
  simp [D_left_begins, m_left_begins, e]
theorem e_left_short {xs : List Int} {d : D} (h : xs.length < 2) : D_left_begins [T xs, .d d] = .exc (refX "inner") [some (T xs), some (.d d)] := by
  have e := e_ahead_short (d := d) h
  simp [D_left_begins, m_left_begins, e]
def Q (P S a b r : Int) : Int := if r = 0 then 0 else r + M P S a b r
theorem e_right_begins {xs ls rs : List Int} {P S a b r : Int} (h : Gp xs ls rs P S a b) (r0 : 0 ≤ r) (r1 : r < S) : D_right_begins [T xs, N r] = .ok (N (Q P S a b r)) [some (T xs), some (N r)] := by
  have e := e_mesh_halves h
  have eb := e_is_below (.int r) S
  rw [below_yes (by omega) r1] at eb
  have em := e_mesh_left (ls := ls) (rs := rs) (r := r) h.bd (by omega) (by omega)
  by_cases q : r = 0
  · simp [D_right_begins, m_right_begins, e, sp1, eb, q, Q] at eb ⊢
    simp [eb]
  · simp [D_right_begins, m_right_begins, e, sp1, eb, q, em, Q]
theorem e_right_bad {xs ls rs : List Int} {P S a b : Int} {d : D} (h : Gp xs ls rs P S a b) (hd : below d S = false) : D_right_begins [T xs, .d d] = .exc (refX "right") [some (T xs), some (.d d)] := by
  have e := e_mesh_halves h
  have eb := e_is_below d S
  rw [hd] at eb
  simp [D_right_begins, m_right_begins, e, sp1, eb, refX]
theorem e_right_short {xs : List Int} {d : D} (h : xs.length < 2) : D_right_begins [T xs, .d d] = .exc (refX "inner") [some (T xs), some (.d d)] := by
  have e := e_mesh_short h
  simp [D_right_begins, m_right_begins, e]
end K16
end
section
set_option Elab.async false
set_option linter.all false
set_option maxRecDepth 100000
set_option maxHeartbeats 4000000
namespace K16
open PySem PySem.Spec L2 L2H Dn K12M K16M
open PyProof.Rows hiding St
/-! draws -/
def Pl (a b c : Int) : List O := [N a, N b, N c]
theorem Pl_at (a b c : Int) (i : Int) : atO (.l (Pl a b c)) i = atI [D.int a, .int b, .int c] i := atO_l' _ _ i rfl
theorem e_take (a b c : Int) {many : Int} (h0 : 0 < many) (h1 : many ≤ lim) : ∃ r a' b' c', 0 ≤ r ∧ r < many ∧ D__law_take [.l (Pl a b c), N many] = .ok (N r) [some (.l (Pl a' b' c')), some (N many)] := by
  have hd : ∀ i, cDiv i many = true := fun i => div_ok h0 (by have := lim_pos; omega)
  by_cases q : 0 < a
  · refine ⟨a % many, a / many, b, c, Int.emod_nonneg _ (by omega), Int.emod_lt_of_pos _ h0, ?_⟩
    have i0 : ixN 3 (0 : Int) = some 0 := rfl
    simp [D__law_take, m__law_take, Pl_at, q, h0, hd]
    simp [Pl, i0]
  · obtain ⟨b', hb⟩ : ∃ b', b' = (b * 48271 + 30323) % 2147483647 := ⟨_, rfl⟩
    obtain ⟨c', hc⟩ : ∃ c', c' = (c * 39373 + b' + 1409) % 2147483399 := ⟨_, rfl⟩
    refine ⟨(c' / 512 + b' / 8192) % many, a, b', c', Int.emod_nonneg _ (by omega), Int.emod_lt_of_pos _ h0, ?_⟩
    have i1 : ixN 3 (1 : Int) = some 1 := rfl
    have i2 : ixN 3 (2 : Int) = some 2 := rfl
    have m1 : ∀ i, cMul i 48271 = true := fun i => cMul_right (by decide)
    have m2 : ∀ i, cMul i 39373 = true := fun i => cMul_right (by decide)
    have d1 : ∀ i, cDiv i 512 = true := fun i => by unfold cDiv; decide +kernel
    have d2 : ∀ i, cDiv i 8192 = true := fun i => by unfold cDiv; decide +kernel
    have sa : ∀ a b c i : Int, atO (.l [N a, N b, N c]) i = atI [D.int a, .int b, .int c] i := fun a b c i => atO_l' _ _ i rfl
    have hS : Pl a b c = [N a, N b, N c] := rfl
    have hS2 : Pl a b' c' = [N a, N b', N c'] := rfl
    rw [hS, hS2]
    simp [D__law_take, m__law_take, sa, q, m1, m2, d1, d2, i1, i2, ← hb, ← hc, h0]
theorem number_loop (v1 : Option O) : ∀ (its : List Nat) (a b c v : Int) (w : Option O), ∃ a' b' c' v' w', forL (gN 3) (mSet 2 (mOp oPlus [.ex (mOp oMul [.nm 2, .ex (mC (.int 100000))]), .ex (mCall D__law_take [.nm 0, .ex (mC (.int 100000))])])) (its.map fun (i : Nat) => D.int i) [some (.l (Pl a b c)), v1, some (N v), w] = .nx [some (.l (Pl a' b' c')), v1, some (N v'), w']
  | [], a, b, c, v, w => ⟨a, b, c, v, w, rfl⟩
  | it :: its, a, b, c, v, w => by
    obtain ⟨r, a1, b1, c1, r0, r1, e⟩ := e_take a b c (many := 100000) (by decide) (by unfold lim; decide +kernel)
    obtain ⟨a', b', c', v', w', ih⟩ := number_loop v1 its a1 b1 c1 (v * 100000 + r) (some (N it))
    have m1 : ∀ i, cMul i 100000 = true := fun i => cMul_right (by decide)
    refine ⟨a', b', c', v', w', ?_⟩
    rw [← ih]
    simp [forL_cons, e, m1]
theorem e_number (a b c : Int) {top : Int} (h0 : 0 < top) : ∃ r a' b' c', 0 ≤ r ∧ r < top ∧ D__law_number [.l (Pl a b c), N top] = .ok (N r) [some (.l (Pl a' b' c')), some (N top)] := by
  obtain ⟨a', b', c', v', w', e⟩ := number_loop (some (N top)) (List.range 12) a b c 0 none
  refine ⟨v' % top, a', b', c', Int.emod_nonneg _ (by omega), Int.emod_lt_of_pos _ h0, ?_⟩
  have r12 : rgD 0 12 = (List.range 12).map fun (i : Nat) => D.int i := rgD_zero 12
  simp [D__law_number, m__law_number, r12, h0] at e ⊢
  simp [e, h0]
/-! the same -/
theorem same_int (n : Nat) (i : Int) : D__law_same (n + 1) [N i, N i] = .ok tt [some (N i), some (N i)] := by
  simp [D__law_same, m__law_same]
theorem same_non (n : Nat) : D__law_same (n + 1) [.d .non, .d .non] = .ok tt [some (.d .non), some (.d .non)] := by
  simp [D__law_same, m__law_same]
theorem same_str (n : Nat) {s : Str} (h : PyData.strOk s = true) : D__law_same (n + 1) [.d (.str s), .d (.str s)] = .ok tt [some (.d (.str s)), some (.d (.str s))] := by
  simp [D__law_same, m__law_same, oEq_str h]
theorem same_tup (n : Nat) (ds : List D) (hl : ds.length ≤ 1000) (h : ∀ d ∈ ds, D__law_same (n + 1) [.d d, .d d] = .ok tt [some (.d d), some (.d d)]) : D__law_same (n + 2) [.d (.tup ds), .d (.tup ds)] = .ok tt [some (.d (.tup ds)), some (.d (.tup ds))] := by
  have e := compL_map (vs := [2]) (g := gN 2) (c := mYes) (m := mCall (D__law_same (n + 1)) [.ex (mOp oIx [.nm 0, .nm 2]), .ex (mOp oIx [.nm 1, .nm 2])]) (e := [some (.d (.tup ds)), some (.d (.tup ds)), none]) (fun _ => .bl true) (rgD 0 ds.length) (fun d hd => by
    rw [rgD_zero] at hd
    obtain ⟨p, hp, rfl⟩ := List.mem_map.mp hd
    have hp := List.mem_range.mp hp
    refine ⟨_, _, [some (.d (.tup ds)), some (.d (.tup ds)), some (N p)], rfl, rfl, ?_, rfl⟩
    have hg : ds[p]? = some ds[p] := List.getElem?_eq_getElem hp
    have hs := h ds[p] (List.getElem_mem hp)
    simp [hg, hs]) (by rw [rgD_zero]; simp; omega)
  have e2 : (rgD 0 ds.length).map (fun _ => D.bl true) = Bs (List.replicate ds.length true) := by
    unfold Bs
    rw [rgD_zero, List.map_map]
    apply List.ext_getElem?
    intro i
    by_cases h : i < ds.length <;> simp [h]
  rw [e2] at e
  have c3 : (-4611686018427387904 : Int) ≤ (ds.length : Int) ∧ (ds.length : Int) < 4611686018427387904 := by omega
  have d : D__law_same (n + 2) = fnD [0, 1] 3 (m__law_same (D__law_same (n + 1))) := rfl
  rw [d]
  generalize D__law_same (n + 1) = f at *
  have hb : (List.replicate ds.length true).all id = true := by simp
  generalize List.replicate ds.length true = bs at *
  simp [m__law_same, c3, e, hb]
theorem same_row (vs : List Int) (hl : vs.length ≤ 1000) : D__law_same 4 [T vs, T vs] = .ok tt [some (T vs), some (T vs)] :=
  same_tup 2 (I vs) (by simpa using hl) fun d hd => by
    obtain ⟨i, _, rfl⟩ := I_mem hd
    exact same_int 2 i
abbrev refT (w : Str) : O := .d (.tup [.str w, .int (-1)])
theorem same_ref {w : Str} (h : PyData.strOk w = true) : D__law_same 4 [refT w, refT w] = .ok tt [some (refT w), some (refT w)] :=
  same_tup 2 [.str w, .int (-1)] (by simp) fun d hd => by
    simp at hd
    rcases hd with rfl | rfl
    · exact same_str 2 h
    · exact same_int 2 (-1)
theorem open_loop (v0 : Option O) : ∀ (r : List Int) (a b c : Int) (v4 v5 : Option O), ∃ a' b' c' w4 w5, forL (gN 4) (mSeq (mSet 5 (mOp oInt [.nm 4]))
  (mSeq (mSet 2 (mOp oMod [.ex (mOp oInt [.ex (mOp oPlus [.ex (mOp oPlus [.ex (mOp oMul [.nm 2, .ex (mC (.int 16807))]), .ex (mOp oMod [.ex (mOp oInt [.nm 5]), .ex (mC (.int 2147483647))])]), .ex (mC (.int 13))])]), .ex (mC (.int 2147483647))]))
  (mSeq (mSet 3 (mOp oMod [.ex (mOp oInt [.ex (mOp oPlus [.ex (mOp oPlus [.ex (mOp oMul [.nm 3, .ex (mC (.int 40692))]), .ex (mOp oMod [.ex (mOp oInt [.nm 5]), .ex (mC (.int 2147483399))])]), .ex (mC (.int 5))])]), .ex (mC (.int 2147483399))]))
  (mIf (mB (mOp oGe [.ex (mOp oAbs [.nm 5]), .ex (mOp oPow [.ex (mC (.int 10)), .ex (mC (.int 18))])])) (mSet 1 (mOp oPlus [.nm 1, .ex (mOp oAbs [.nm 5])])) (mPass))))) (I r) [v0, some (N a), some (N b), some (N c), v4, v5] = .nx [v0, some (N a'), some (N b'), some (N c'), w4, w5]
  | [], a, b, c, v4, v5 => ⟨a, b, c, v4, v5, rfl⟩
  | x :: r, a, b, c, v4, v5 => by
    have c1 : ∀ i, cMul i 16807 = true := fun i => cMul_right (by decide)
    have c2 : ∀ i, cMul i 40692 = true := fun i => cMul_right (by decide)
    have c3 : cShl 10 18 = true := by decide +kernel
    obtain ⟨z, hz⟩ : ∃ z : Int, z = if x < 0 then -x else x := ⟨_, rfl⟩
    by_cases q : (1000000000000000000 : Int) ≤ z
    · obtain ⟨a', b', c', w4, w5, e⟩ := open_loop v0 r (a + z) ((b * 16807 + x % 2147483647 + 13) % 2147483647) ((c * 40692 + x % 2147483399 + 5) % 2147483399) (some (N x)) (some (N x))
      refine ⟨a', b', c', w4, w5, ?_⟩
      rw [← e]
      simp [forL_cons, c1, c2, c3, ← hz, q]
    · obtain ⟨a', b', c', w4, w5, e⟩ := open_loop v0 r a ((b * 16807 + x % 2147483647 + 13) % 2147483647) ((c * 40692 + x % 2147483399 + 5) % 2147483399) (some (N x)) (some (N x))
      refine ⟨a', b', c', w4, w5, ?_⟩
      rw [← e]
      simp [forL_cons, c1, c2, c3, ← hz, q]
theorem e_open (ns : List Int) : ∃ a b c, D__law_open [.d (.scr (I ns))] = .ok (.l (Pl a b c)) [some (.d (.scr (I ns)))] := by
  obtain ⟨a', b', c', w4, w5, e⟩ := open_loop (some (.d (.scr (I ns)))) ns 0 41077 8809 none none
  refine ⟨a', b', c', ?_⟩
  simp [D__law_open, m__law_open, e, Pl]
end K16
end
section
set_option Elab.async false
set_option linter.all false
set_option maxRecDepth 100000
set_option maxHeartbeats 4000000
namespace K16
open PySem PySem.Spec L2 L2H Dn K12M K16M
open PyProof.Rows hiding St
theorem prodL_le5 : ∀ {xs : List Int}, Ok xs → (∀ x ∈ xs, x ≤ 5) → prodL xs ≤ 5 ^ xs.length
  | [], _, _ => by simp [prodL]
  | x :: r, ok, h => by
    have ih := prodL_le5 ok.tail (fun y hy => h y (List.mem_cons_of_mem _ hy))
    have hx := h x List.mem_cons_self
    have op := prodL_pos ok.tail
    have := ok.head
    show x * prodL r ≤ _
    rw [List.length_cons, Int.pow_succ, Int.mul_comm (5 ^ r.length)]
    exact Int.mul_le_mul hx ih (by omega) (by omega)
theorem sz5 {xs : List Int} (ok : Ok xs) (h : ∀ x ∈ xs, x ≤ 5) (hl : xs.length ≤ 6) : Sz xs := by
  refine ⟨ok, ?_, by omega⟩
  have e := prodL_le5 ok h
  have lp := lim_pos
  have q : ((5 ^ xs.length : Nat) : Int) ≤ ((5 ^ 6 : Nat) : Int) := Int.ofNat_le.mpr (Nat.pow_le_pow_right (by decide) hl)
  rw [Int.natCast_pow, Int.natCast_pow] at q
  have : (5 : Int) ^ xs.length ≤ 5 ^ 6 := q
  have l6 : (5 : Int) ^ 6 ≤ lim := by unfold lim; decide +kernel
  omega
theorem cut_tail (xs : List Int) (v : Int) : Dn.cutD (I (xs ++ [v])) (some (-1)) none = [.int v] := by
  unfold Dn.cutD
  have e1 : HT.sIx (I (xs ++ [v])).length 0 (some (-1)) = xs.length := by
    rw [I_len]
    simp [HT.sIx]
    try omega
  rw [e1, HT.sIx_none, I_len, I_drop, List.length_append, List.length_singleton, show xs.length + 1 - xs.length = 1 by omega, List.drop_left]
  rfl
theorem cut_init (xs : List Int) (v : Int) : Dn.cutD (I (xs ++ [v])) none (some (-1)) = I xs := by
  unfold Dn.cutD
  have e1 : HT.sIx (I (xs ++ [v])).length (I (xs ++ [v])).length (some (-1)) = xs.length := by
    rw [I_len]
    simp [HT.sIx]
    try omega
  rw [e1, HT.sIx_none, List.drop_zero, Nat.sub_zero, I_take, List.take_left]
theorem Gp.two2 {x y : Int} {ls rs : List Int} {P S a b : Int} (h : Gp [x, y] ls rs P S a b) : P = x ∧ S = y := by
  have e := e_law_halves h.sz (by simp)
  have g := gap_bst h.sz (by simp)
  have j1 := g.j1
  have j2 := g.jk
  have eg : gapZ [x, y] = 1 := by simp at j2; omega
  rw [eg, h.halves] at e
  simp [hvD, lft, rgt, prodL] at e
  exact ⟨e.1, e.2.1⟩
def bSm : MS := mSeq (mSet 3 (mOp oPlus [.nm 1, .ex (mAll oTup [.ex (mOp oPlus [.ex (mC (.int 2)), .ex (mCall D__law_take [.nm 0, .ex (mC (.int 4))])])])]))
  (mSeq (mIf (mB (mOp (oEq false) [.ex (mCall D__law_take [.nm 0, .ex (mC (.int 2))]), .ex (mC (.int 0))])) (mSet 3 (mOp oPlus [.ex (mSlice (.nm 3) (some (mOp oNeg [.ex (mC (.int 1))])) none), .ex (mSlice (.nm 3) none (some (mOp oNeg [.ex (mC (.int 1))])))])) (mPass))
  (mSeq (mSet 4 (mCall D__law_halves [.nm 3]))
  (mIf (mB (mOp oLe [.ex (mOp oSub [.ex (mOp oPlus [.ex (mOp oIx [.nm 4, .ex (mC (.int 0))]), .ex (mOp oIx [.nm 4, .ex (mC (.int 1))])]), .ex (mC (.int 1))]), .ex (mC (.int 60))])) (mSet 1 (mN 3)) (mPass))))
theorem small_loop : ∀ (its : List Nat) (a b c : Int) (xs ls rs : List Int) (P S p q : Int) (w2 w3 w4 : Option O), Gp xs ls rs P S p q → (∀ x ∈ xs, x ≤ 5) → P + S ≤ 61 → xs.length + its.length ≤ 6 →
    ∃ a' b' c' xs' ls' rs' P' S' p' q' w2' w3' w4', Gp xs' ls' rs' P' S' p' q' ∧ P' + S' ≤ 61 ∧ forL (gN 2) bSm (its.map fun (i : Nat) => D.int i) [some (.l (Pl a b c)), some (T xs), w2, w3, w4] = .nx [some (.l (Pl a' b' c')), some (T xs'), w2', w3', w4']
  | [], a, b, c, xs, ls, rs, P, S, p, q, w2, w3, w4, h, _, h61, _ => ⟨a, b, c, xs, ls, rs, P, S, p, q, w2, w3, w4, h, h61, rfl⟩
  | it :: its, a, b, c, xs, ls, rs, P, S, p, q, w2, w3, w4, h, h5, h61, hl => by
    rw [List.length_cons] at hl
    have lp := lim_pos
    obtain ⟨r, a1, b1, c1, r0, r1, e1⟩ := e_take a b c (many := 4) (by decide) (by omega)
    obtain ⟨f, a2, b2, c2, f0, f1, e2⟩ := e_take a1 b1 c1 (many := 2) (by decide) (by omega)
    have k1 : xs.length ≤ 16777215 := by omega
    have k2 : 1 + xs.length ≤ 16777216 := by omega
    have go : ∀ ys : List Int, (∀ y ∈ ys, y = 2 + r ∨ y ∈ xs) → ys.length = xs.length + 1 → bSm [some (.l (Pl a b c)), some (T xs), some (N it), w3, w4] = ifE (mSet 1 (mN 3)) mPass (mB (mOp oLe [.ex (mOp oSub [.ex (mOp oPlus [.ex (mOp oIx [.nm 4, .ex (mC (.int 0))]), .ex (mOp oIx [.nm 4, .ex (mC (.int 1))])]), .ex (mC (.int 1))]), .ex (mC (.int 60))]) [some (.l (Pl a2 b2 c2)), some (T xs), some (N it), some (T ys), some (hvD ys (gapZ ys))]) →
        ∃ a' b' c' xs' ls' rs' P' S' p' q' w2' w3' w4', Gp xs' ls' rs' P' S' p' q' ∧ P' + S' ≤ 61 ∧ forL (gN 2) bSm ((it :: its).map fun (i : Nat) => D.int i) [some (.l (Pl a b c)), some (T xs), w2, w3, w4] = .nx [some (.l (Pl a' b' c')), some (T xs'), w2', w3', w4'] := fun ys hy hyl eb => by
      have y5 : ∀ y ∈ ys, y ≤ 5 := fun y m => by
        rcases hy y m with rfl | m
        · omega
        · exact h5 y m
      have y2 : Ok ys := fun y m => by
        rcases hy y m with rfl | m
        · omega
        · exact h.sz.ok y m
      have two := h.two
      have sy : Sz ys := sz5 y2 y5 (by omega)
      obtain ⟨ls1, rs1, P1, S1, p1, q1, g1⟩ := Gp.of sy (by omega)
      have eh : hvD ys (gapZ ys) = hvO P1 S1 p1 q1 := by
        have e := e_law_halves sy (by omega)
        rw [g1.halves] at e
        injection e with e _
        exact e.symm
      rw [eh] at eb
      have t0 := hv0 P1 S1 p1 q1
      have t1 := hv1 P1 S1 p1 q1
      have gN2 : gN 2 [some (.l (Pl a b c)), some (T xs), w2, w3, w4] (D.int it) = some [some (.l (Pl a b c)), some (T xs), some (N it), w3, w4] := rfl
      by_cases z : P1 + S1 - 1 ≤ 60
      · obtain ⟨a', b', c', xs', ls', rs', P', S', p', q', w2', w3', w4', i1, i2, i3⟩ := small_loop its a2 b2 c2 ys ls1 rs1 P1 S1 p1 q1 (some (N it)) (some (T ys)) (some (hvO P1 S1 p1 q1)) g1 y5 (by omega) (by omega)
        refine ⟨a', b', c', xs', ls', rs', P', S', p', q', w2', w3', w4', i1, i2, ?_⟩
        rw [List.map_cons, forL_cons, gN2, forG_s, eb, ← i3]
        simp [t0, t1, z]
      · obtain ⟨a', b', c', xs', ls', rs', P', S', p', q', w2', w3', w4', i1, i2, i3⟩ := small_loop its a2 b2 c2 xs ls rs P S p q (some (N it)) (some (T ys)) (some (hvO P1 S1 p1 q1)) h h5 h61 (by omega)
        refine ⟨a', b', c', xs', ls', rs', P', S', p', q', w2', w3', w4', i1, i2, ?_⟩
        rw [List.map_cons, forL_cons, gN2, forG_s, eb, ← i3]
        simp [t0, t1, z]
    have c1' := cut_tail xs (2 + r)
    have c2' := cut_init xs (2 + r)
    have two := h.two
    by_cases z : f = 0
    · have hok : Ok ((2 + r) :: xs) := fun y m => by
        rcases List.mem_cons.mp m with rfl | m
        · omega
        · exact h.sz.ok y m
      have s5 : Sz ((2 + r) :: xs) := sz5 hok (fun y m => by
        rcases List.mem_cons.mp m with rfl | m
        · omega
        · exact h5 y m) (by rw [List.length_cons]; omega)
      have eh := e_law_halves s5 (by rw [List.length_cons]; omega)
      refine go ((2 + r) :: xs) (fun y m => List.mem_cons.mp m) (by simp) ?_
      generalize hvD ((2 + r) :: xs) (gapZ ((2 + r) :: xs)) = HV at *
      have hI : D.int (2 + r) :: I xs = I ((2 + r) :: xs) := (I_cons _ _).symm
      generalize (2 + r) :: xs = ys at *
      simp [bSm, e1, e2, k1, k2, c1', c2', z, hI, eh]
    · have hok : Ok (xs ++ [2 + r]) := fun y m => by
        rcases List.mem_append.mp m with m | m
        · exact h.sz.ok y m
        · simp at m; omega
      have s5 : Sz (xs ++ [2 + r]) := sz5 hok (fun y m => by
        rcases List.mem_append.mp m with m | m
        · exact h5 y m
        · simp at m; omega) (by rw [List.length_append, List.length_singleton]; omega)
      have eh := e_law_halves s5 (by rw [List.length_append, List.length_singleton]; omega)
      refine go (xs ++ [2 + r]) (fun y m => (List.mem_append.mp m).symm.imp (fun m => by simpa using m) id) (by simp) ?_
      generalize hvD (xs ++ [2 + r]) (gapZ (xs ++ [2 + r])) = HV at *
      try simp at eh
      simp [bSm, e1, e2, k1, k2, z, eh]
end K16
end
section
set_option Elab.async false
set_option linter.all false
set_option maxRecDepth 100000
set_option maxHeartbeats 4000000
namespace K16
open PySem PySem.Spec L2 L2H Dn K12M K16M
open PyProof.Rows hiding St
theorem e_small (a b c : Int) : ∃ a' b' c' xs ls rs P S p q, Gp xs ls rs P S p q ∧ P + S ≤ 61 ∧ D__law_small_sizes [.l (Pl a b c)] = .ok (T xs) [some (.l (Pl a' b' c'))] := by
  have lp := lim_pos
  obtain ⟨x, a1, b1, c1, x0, x1, e1⟩ := e_take a b c (many := 4) (by decide) (by omega)
  obtain ⟨y, a2, b2, c2, y0, y1, e2⟩ := e_take a1 b1 c1 (many := 4) (by decide) (by omega)
  obtain ⟨r, a3, b3, c3, r0, r1, e3⟩ := e_take a2 b2 c2 (many := 5) (by decide) (by omega)
  have ok : Ok [2 + x, 2 + y] := fun z m => by simp at m; omega
  have h5 : ∀ z ∈ [2 + x, 2 + y], z ≤ 5 := fun z m => by simp at m; omega
  obtain ⟨ls, rs, P, S, p, q, g⟩ := Gp.of (sz5 ok h5 (by simp)) (by simp)
  obtain ⟨eP, eS⟩ := g.two2
  obtain ⟨a', b', c', xs', ls', rs', P', S', p', q', w2', w3', w4', g', h61, e4⟩ := small_loop (List.range r.toNat) a3 b3 c3 [2 + x, 2 + y] ls rs P S p q none none none g h5 (by omega) (by simp; omega)
  have c3' := rg62 (r := r) (by omega) (by omega)
  refine ⟨a', b', c', xs', ls', rs', P', S', p', q', g', h61, ?_⟩
  have hT : T [2 + x, 2 + y] = .d (.tup [.int (2 + x), .int (2 + y)]) := rfl
  rw [hT] at e4
  unfold bSm at e4
  simp [D__law_small_sizes, m__law_small_sizes, e1, e2, e3, c3', rgD_zero, e4]
/-! wide sizes -/
def wSpread : ME := mOp oIx [.ex (mAll oLst [.ex (mC (.int 1)), .ex (mC (.int 1)), .ex (mOp oPow [.ex (mC (.int 10)), .ex (mC (.int 9))]), .ex (mC (.int 11)), .ex (mC (.int 11)), .ex (mC (.int 11)), .ex (mC (.int 11)), .ex (mC (.int 11))]), .nm 3]
def bW1 : MS := mIf (mTAnd (mB (mOp (oEq false) [.nm 3, .ex (mC (.int 1))])) (mB (mOp (oEq false) [.nm 6, .ex (mOp oDiv [.nm 2, .ex (mC (.int 3))])]))) (mSet 7 (mC (.int 11))) (mPass)
def bW2 : MS := mSeq (mSet 8 (mOp oPlus [.ex (mC (.int 2)), .ex (mCall D__law_take [.nm 0, .nm 7])]))
  (mIf (mB (mOp oLe [.ex (mOp oMul [.nm 5, .nm 8]), .nm 1])) (mSeq (mExpr (mMut 4 fApp [.ex (mN 8)]))
  (mSet 5 (mOp oMul [.nm 5, .nm 8]))) (mPass))
theorem w_pre (rest : MS) {s many k : Int} (s0 : 0 ≤ s) (s1 : s < 8) (o0 o1 o4 o5 o7 o8 : Option O) :
    ∃ sp, 0 < sp ∧ sp ≤ 1000000000 ∧ mSeq (mSet 7 wSpread) (mSeq bW1 rest) [o0, o1, some (N many), some (N s), o4, o5, some (N k), o7, o8] = rest [o0, o1, some (N many), some (N s), o4, o5, some (N k), some (N sp), o8] := by
  have hd : cDiv many 3 = true := by unfold cDiv; decide +kernel
  have cp : cShl 10 9 = true := by decide +kernel
  have g : ∀ i, atO (.l [N 1, N 1, N 1000000000, N 11, N 11, N 11, N 11, N 11]) i = atI [D.int 1, .int 1, .int 1000000000, .int 11, .int 11, .int 11, .int 11, .int 11] i := fun i => atO_l' _ _ i rfl
  obtain rfl | rfl | rfl | rfl | rfl | rfl | rfl | rfl : s = 0 ∨ s = 1 ∨ s = 2 ∨ s = 3 ∨ s = 4 ∨ s = 5 ∨ s = 6 ∨ s = 7 := by omega
  · exact ⟨1, by decide, by decide, by simp [wSpread, bW1, cp, g]⟩
  · by_cases z : k = many / 3
    · exact ⟨11, by decide, by decide, by simp [wSpread, bW1, cp, g, hd, z]⟩
    · exact ⟨1, by decide, by decide, by simp [wSpread, bW1, cp, g, hd, z]⟩
  · exact ⟨1000000000, by decide, by decide, by simp [wSpread, bW1, cp, g]⟩
  · exact ⟨11, by decide, by decide, by simp [wSpread, bW1, cp, g]⟩
  · exact ⟨11, by decide, by decide, by simp [wSpread, bW1, cp, g]⟩
  · exact ⟨11, by decide, by decide, by simp [wSpread, bW1, cp, g]⟩
  · exact ⟨11, by decide, by decide, by simp [wSpread, bW1, cp, g]⟩
  · exact ⟨11, by decide, by decide, by simp [wSpread, bW1, cp, g]⟩
theorem wide_loop {top s many : Int} (s0 : 0 ≤ s) (s1 : s < 8) (ht0 : 1000000000000000000000000000000 ≤ top) (ht : top ≤ lim) : ∀ (its : List Nat) (a b c : Int) (acc : List Int) (w6 w7 w8 : Option O), Ok acc → prodL acc ≤ lim → (acc.length ≤ 1 → prodL acc ≤ 1000000001) → acc.length + its.length ≤ 75 →
    ∃ a' b' c' acc' w w6' w7' w8', Ok acc' ∧ prodL acc' ≤ lim ∧ acc'.length ≤ 75 ∧ (2 ≤ acc.length + its.length → 2 ≤ acc'.length) ∧ forL (gN 6) (mSeq (mSet 7 wSpread) (mSeq bW1 bW2)) (its.map fun (i : Nat) => D.int i) [some (.l (Pl a b c)), some (N top), some (N many), some (N s), some (L acc), some (N (prodL acc)), w6, w7, w8] = .nx [some (.l (Pl a' b' c')), some (N top), some (N many), some (N s), some (L acc'), some (N w), w6', w7', w8']
  | [], a, b, c, acc, w6, w7, w8, ok, hp, hs, hl => ⟨a, b, c, acc, prodL acc, w6, w7, w8, ok, hp, by simpa using hl, fun z => by simpa using z, rfl⟩
  | it :: its, a, b, c, acc, w6, w7, w8, ok, hp, hs, hl => by
    rw [List.length_cons] at hl
    have lb : (1000000000 : Int) ≤ lim := by unfold lim; decide +kernel
    obtain ⟨sp, sp0, sp1, ep⟩ := w_pre bW2 (many := many) (k := (it : Int)) s0 s1 (some (.l (Pl a b c))) (some (N top)) (some (L acc)) (some (N (prodL acc))) w7 w8
    obtain ⟨r, a1, b1, c1, r0, r1, e⟩ := e_take a b c (many := sp) sp0 (by omega)
    have op := prodL_pos ok
    have m1 : cMul (prodL acc) (2 + r) = true := cMul_right (by omega)
    have hg : acc.length < 16000000 := by omega
    have gN6 : gN 6 [some (.l (Pl a b c)), some (N top), some (N many), some (N s), some (L acc), some (N (prodL acc)), w6, w7, w8] (D.int it) = some [some (.l (Pl a b c)), some (N top), some (N many), some (N s), some (L acc), some (N (prodL acc)), some (N it), w7, w8] := rfl
    by_cases q : prodL acc * (2 + r) ≤ top
    · obtain ⟨a', b', c', acc', w, w6', w7', w8', g1, g2, g3, g4, g5⟩ := wide_loop s0 s1 ht0 ht its a1 b1 c1 (acc ++ [2 + r]) (some (N it)) (some (N sp)) (some (N (2 + r))) (fun x hx => by
        rcases List.mem_append.mp hx with hx | hx
        · exact ok x hx
        · simp at hx; omega) (by rw [prodL_snoc]; omega) (fun z => by
        rw [List.length_append, List.length_singleton] at z
        have : acc = [] := List.eq_nil_of_length_eq_zero (by omega)
        subst this
        simp [prodL]
        omega) (by rw [List.length_append, List.length_singleton]; omega)
      refine ⟨a', b', c', acc', w, w6', w7', w8', g1, g2, g3, fun z => g4 (by rw [List.length_cons] at z; rw [List.length_append, List.length_singleton]; omega), ?_⟩
      rw [prodL_snoc] at g5
      rw [List.map_cons, forL_cons, gN6, forG_s, ep, ← g5]
      simp [bW2, e, m1, q, hg]
    · have two : 2 ≤ acc.length := by
        refine Nat.not_lt.mp fun z => q ?_
        have := hs (by omega)
        have := Int.mul_le_mul (a := prodL acc) (b := 2 + r) (c := 1000000001) (d := 1000000001) this (by omega) (by omega) (by omega)
        omega
      obtain ⟨a', b', c', acc', w, w6', w7', w8', g1, g2, g3, g4, g5⟩ := wide_loop s0 s1 ht0 ht its a1 b1 c1 acc (some (N it)) (some (N sp)) (some (N (2 + r))) ok hp hs (by omega)
      refine ⟨a', b', c', acc', w, w6', w7', w8', g1, g2, g3, fun z => g4 (by omega), ?_⟩
      rw [List.map_cons, forL_cons, gN6, forG_s, ep, ← g5]
      simp [bW2, e, m1, q]
theorem e_wide_sizes (a b c : Int) : ∃ a' b' c' xs, Sz xs ∧ 2 ≤ xs.length ∧ D__law_wide_sizes [.l (Pl a b c)] = .ok (T xs) [some (.l (Pl a' b' c'))] := by
  have lp := lim_pos
  have p30 : (10 : Int) ^ 30 ≤ lim := by unfold lim; decide +kernel
  have p59 : (10 : Int) ^ 59 ≤ lim := by unfold lim; decide +kernel
  have g30 : (1000000000000000000000000000000 : Int) ≤ 10 ^ 30 := by decide +kernel
  have g59 : (1000000000000000000000000000000 : Int) ≤ 10 ^ 59 := by decide +kernel
  have q30 : oPow [N 10, N 30] = some (N (10 ^ 30)) := rfl
  have q59 : oPow [N 10, N 59] = some (N (10 ^ 59)) := rfl
  obtain ⟨t, a1, b1, c1, t0, t1, e1⟩ := e_take a b c (many := 4) (by decide) (by omega)
  obtain ⟨n, a2, b2, c2, n0, n1, e2⟩ := e_take a1 b1 c1 (many := 67) (by decide) (by omega)
  obtain ⟨s, a3, b3, c3, s0, s1, e3⟩ := e_take a2 b2 c2 (many := 8) (by decide) (by omega)
  generalize (10 : Int) ^ 30 = T30 at *
  generalize (10 : Int) ^ 59 = T59 at *
  have c3' := rg62 (r := 4 + n) (by omega) (by omega)
  have go : ∀ top : Int, 1000000000000000000000000000000 ≤ top → top ≤ lim → ∃ a' b' c' xs w w6 w7 w8, Sz xs ∧ 2 ≤ xs.length ∧ forL (gN 6) (mSeq (mSet 7 wSpread) (mSeq bW1 bW2)) (rgD 0 (4 + n).toNat) [some (.l (Pl a3 b3 c3)), some (N top), some (N (4 + n)), some (N s), some (.l []), some (N 1), none, none, none] = .nx [some (.l (Pl a' b' c')), some (N top), some (N (4 + n)), some (N s), some (L xs), some (N w), w6, w7, w8] := fun top h1 h2 => by
    obtain ⟨a', b', c', acc', w, w6, w7, w8, g1, g2, g3, g4, g5⟩ := wide_loop (top := top) (s := s) (many := 4 + n) s0 s1 h1 h2 (List.range (4 + n).toNat) a3 b3 c3 [] none none none (fun x hx => by cases hx) (by simp [prodL]; omega) (fun _ => by simp [prodL]) (by simp; omega)
    refine ⟨a', b', c', acc', w, w6, w7, w8, ⟨g1, g2, by omega⟩, g4 (by simp; omega), ?_⟩
    rw [rgD_zero]
    exact g5
  by_cases z : t = 0
  · obtain ⟨a', b', c', xs, w, w6, w7, w8, h1, h2, e4⟩ := go T59 g59 p59
    refine ⟨a', b', c', xs, h1, h2, ?_⟩
    unfold bW1 bW2 wSpread at e4
    simp [D__law_wide_sizes, m__law_wide_sizes, e1, e2, e3, q30, q59, z, c3', e4]
  · obtain ⟨a', b', c', xs, w, w6, w7, w8, h1, h2, e4⟩ := go T30 g30 p30
    refine ⟨a', b', c', xs, h1, h2, ?_⟩
    unfold bW1 bW2 wSpread at e4
    simp [D__law_wide_sizes, m__law_wide_sizes, e1, e2, e3, q30, q59, z, c3', e4]
end K16
end
section
set_option Elab.async false
set_option linter.all false
set_option maxRecDepth 100000
set_option maxHeartbeats 4000000
namespace K16
open PySem PySem.Spec L2 L2H Dn K12M K16M
open PyProof.Rows hiding St
theorem at_last {xs : List D} {x : D} (h : xs.getLast? = some x) : atI xs (-1) = some x := by
  unfold atI ixN
  have hne : xs ≠ [] := by rintro rfl; cases h
  have hl := List.length_pos_iff.mpr hne
  rw [if_neg (by omega), if_pos (by omega)]
  rw [List.getLast?_eq_getElem?] at h
  simp only [Option.bind_some]
  rw [← h]
  congr 1
  omega
def fr (a : Int) : Nat → Int → List Int
  | 0, v => [v]
  | m + 1, v => v :: fr a m (v + a)
theorem fr_len (a : Int) : ∀ (m : Nat) (v : Int), (fr a m v).length = m + 1
  | 0, v => rfl
  | m + 1, v => by rw [fr, List.length_cons, fr_len a m]
theorem fr_get (a : Int) : ∀ (m : Nat) (v : Int) (j : Nat), j ≤ m → (fr a m v)[j]? = some (v + j * a)
  | 0, v, j, h => by
    have : j = 0 := by omega
    subst this
    simp [fr]
  | m + 1, v, 0, h => by simp [fr]
  | m + 1, v, j + 1, h => by
    rw [fr, List.getElem?_cons_succ, fr_get a m (v + a) j (by omega)]
    congr 1
    rw [Int.natCast_add, Int.add_mul]
    omega
def bFr : MS := mExpr (mMut 2 fApp [.ex (mOp oPlus [.ex (mOp oIx [.nm 2, .ex (mOp oNeg [.ex (mC (.int 1))])]), .ex (mOp oIx [.nm 0, .ex (mC (.int 2))])])])
theorem fr_loop (P S a b : Int) (o1 o4 o5 o6 o7 o8 : Option O) : ∀ (its : List Nat) (pre : List Int) (v : Int) (w3 : Option O), pre.length + its.length ≤ 1000 →
    ∃ w3', forL (gN 3) bFr (its.map fun (i : Nat) => D.int i) [some (hvO P S a b), o1, some (L (pre ++ [v])), w3, o4, o5, o6, o7, o8] = .nx [some (hvO P S a b), o1, some (L (pre ++ fr a its.length v)), w3', o4, o5, o6, o7, o8]
  | [], pre, v, w3, hl => ⟨w3, rfl⟩
  | it :: its, pre, v, w3, hl => by
    rw [List.length_cons] at hl
    obtain ⟨w3', e⟩ := fr_loop P S a b o1 o4 o5 o6 o7 o8 its (pre ++ [v]) (v + a) (some (N it)) (by rw [List.length_append, List.length_singleton]; omega)
    refine ⟨w3', ?_⟩
    have t2 := hv2 P S a b
    have hL : atO (L (pre ++ [v])) (-1 : Int) = some (.int v) := by
      rw [atO_l]
      refine at_last ?_
      simp [I]
    have g3 : gN 3 [some (hvO P S a b), o1, some (L (pre ++ [v])), w3, o4, o5, o6, o7, o8] (D.int it) = some [some (hvO P S a b), o1, some (L (pre ++ [v])), some (N it), o4, o5, o6, o7, o8] := rfl
    have e2 : pre ++ fr a (its.length + 1) v = pre ++ [v] ++ fr a its.length (v + a) := by simp [fr]
    have eL : L (pre ++ [v] ++ [v + a]) = .l ((I (pre ++ [v])).map O.d ++ [.d (.int (v + a))]) := by
      show O.l _ = _
      simp [I]
    rw [List.map_cons, forL_cons, g3, forG_s, List.length_cons, e2, ← e, eL]
    have hg : (pre ++ [v]).length < 16000000 := by rw [List.length_append, List.length_singleton]; omega
    generalize pre ++ [v] = q at *
    simp [bFr, t2, hL, hg]
def bk (P b : Int) (n : Nat) : List Int := (List.range n).map fun (i : Nat) => P - 1 - (i : Int) / b
theorem bk_succ (P b : Int) (n : Nat) : bk P b (n + 1) = bk P b n ++ [P - 1 - (n : Int) / b] := by
  unfold bk
  rw [List.range_succ, List.map_append]
  rfl
def bBk : MS := mSeq (mIf (mB (mOp (oEq false) [.nm 6, .ex (mOp oIx [.nm 0, .ex (mC (.int 3))])])) (mSeq (mSet 5 (mOp oSub [.nm 5, .ex (mC (.int 1))]))
  (mSet 6 (mC (.int 0)))) (mPass))
  (mSeq (mExpr (mMut 4 fApp [.ex (mN 5)]))
  (mSet 6 (mOp oPlus [.nm 6, .ex (mC (.int 1))])))
theorem bk_loop {P S a b : Int} (b2 : 2 ≤ b) (o1 o2 o3 o8 : Option O) : ∀ (its : List Nat) (n : Nat) (lf us : Int) (w7 : Option O), (n : Int) = b * (P - 1 - lf) + us → 0 ≤ us → us ≤ b → n + its.length ≤ 1000 →
    ∃ lf' us' w7', forL (gN 7) bBk (its.map fun (i : Nat) => D.int i) [some (hvO P S a b), o1, o2, o3, some (L (bk P b n)), some (N lf), some (N us), w7, o8] = .nx [some (hvO P S a b), o1, o2, o3, some (L (bk P b (n + its.length))), some (N lf'), some (N us'), w7', o8]
  | [], n, lf, us, w7, e0, u0, u1, hl => ⟨lf, us, w7, rfl⟩
  | it :: its, n, lf, us, w7, e0, u0, u1, hl => by
    rw [List.length_cons] at hl
    have t3 := hv3 P S a b
    have g7 : gN 7 [some (hvO P S a b), o1, o2, o3, some (L (bk P b n)), some (N lf), some (N us), w7, o8] (D.int it) = some [some (hvO P S a b), o1, o2, o3, some (L (bk P b n)), some (N lf), some (N us), some (N it), o8] := rfl
    have hg : (bk P b n).length < 16000000 := by unfold bk; simp; omega
    have key : ∀ lf1 us1 : Int, (n : Int) = b * (P - 1 - lf1) + us1 → 0 ≤ us1 → us1 < b → bk P b (n + 1) = bk P b n ++ [lf1] := fun lf1 us1 e u0 u1 => by
      rw [bk_succ]
      congr 2
      have : (n : Int) / b = P - 1 - lf1 := by
        rw [e, Int.add_comm, Int.add_mul_ediv_left _ _ (by omega), Int.ediv_eq_zero_of_lt u0 u1]
        omega
      omega
    have app : ∀ q : List Int, ∀ v : Int, L (q ++ [v]) = .l ((I q).map O.d ++ [.d (.int v)]) := fun q v => by
      show O.l _ = _
      simp [I]
    by_cases z : us = b
    · have e1 : (n : Int) = b * (P - 1 - (lf - 1)) + 0 := by
        rw [show P - 1 - (lf - 1) = P - 1 - lf + 1 by omega, Int.mul_add]
        omega
      have k := key (lf - 1) 0 e1 (by omega) (by omega)
      obtain ⟨lf', us', w7', e⟩ := bk_loop (P := P) (S := S) (a := a) b2 o1 o2 o3 o8 its (n + 1) (lf - 1) 1 (some (N it)) (by omega) (by omega) (by omega) (by omega)
      refine ⟨lf', us', w7', ?_⟩
      rw [List.map_cons, forL_cons, g7, forG_s, List.length_cons, show n + (its.length + 1) = n + 1 + its.length by omega, ← e, k, app]
      generalize bk P b n = q at *
      simp [bBk, t3, z, hg]
    · have k := key lf us e0 u0 (by omega)
      obtain ⟨lf', us', w7', e⟩ := bk_loop (P := P) (S := S) (a := a) b2 o1 o2 o3 o8 its (n + 1) lf (us + 1) (some (N it)) (by omega) (by omega) (by omega) (by omega)
      refine ⟨lf', us', w7', ?_⟩
      rw [List.map_cons, forL_cons, g7, forG_s, List.length_cons, show n + (its.length + 1) = n + 1 + its.length by omega, ← e, k, app]
      generalize bk P b n = q at *
      simp [bBk, t3, z, hg]
end K16
end
section
set_option Elab.async false
set_option linter.all false
set_option maxRecDepth 100000
set_option maxHeartbeats 4000000
namespace K16
open PySem PySem.Spec L2 L2H Dn K12M K16M
open PyProof.Rows hiding St
def mo (P S a b : Int) : List Int := (List.range S.toNat).map fun (j : Nat) => M P S a b j
theorem mo_get {P S a b : Int} {j : Nat} (h : (j : Int) < S) : (mo P S a b)[j]? = some (M P S a b j) := by
  unfold mo
  rw [List.getElem?_map, List.getElem?_range (by omega)]
  rfl
theorem M_zero {P S a b : Int} (h : Hv P S a b) : M P S a b 0 = 0 := by
  have g : 0 ≤ M P S a b 0 := by
    refine Int.not_lt.mp fun q => ?_
    have := (M_iff h 0 (-1)).mp (by omega)
    have := G_neg h (l := -1) (by omega)
    omega
  have : M P S a b 0 ≤ 0 * a := Int.min_le_left _ _
  rw [Int.zero_mul] at this
  omega
theorem back_get (P b : Int) {n j : Nat} (h : j ≤ n) : (bk P b n ++ [0]).reverse[j]? = some (if j = 0 then 0 else P - 1 - ((n : Int) - j) / b) := by
  rw [List.reverse_append]
  match j, h with
  | 0, _ => rfl
  | j + 1, h =>
    rw [if_neg (by omega)]
    show ((bk P b n).reverse)[j]? = _
    have hl : (bk P b n).length = n := by unfold bk; simp
    rw [List.getElem?_reverse (by omega), hl]
    unfold bk
    rw [List.getElem?_map, List.getElem?_range (by omega)]
    show some (P - 1 - ((n - 1 - j : Nat) : Int) / b) = some (P - 1 - ((n : Int) - ((j + 1 : Nat) : Int)) / b)
    rw [show ((n - 1 - j : Nat) : Int) = (n : Int) - ((j + 1 : Nat) : Int) by omega]
theorem e_moments {P S a b : Int} (h : Bd P S a b) (hs : P + S ≤ 61) : D__law_moments [hvO P S a b] = .ok (L (mo P S a b)) [some (hvO P S a b)] := by
  have P2 := h.hv.P2
  have S2 := h.hv.S2
  obtain ⟨n, hn⟩ : ∃ n : Nat, S = (n : Int) + 1 := ⟨(S - 1).toNat, by omega⟩
  have t0 := hv0 P S a b
  have t1 := hv1 P S a b
  have c3 := rg62 (r := S) (by omega) (by omega)
  have rr : rgD 1 n = (List.range' 1 n).map fun (i : Nat) => D.int i := rgD_from 1 n
  have r1 : (S - 1).toNat = n := by omega
  have r2 : S.toNat = n + 1 := by omega
  have rz : rgD 0 (n + 1) = (List.range (n + 1)).map fun (i : Nat) => D.int i := rgD_zero (n + 1)
  obtain ⟨w3, e1⟩ := fr_loop P S a b (some (N (P - 1))) none none none none none (List.range' 1 n) [] 0 none (by simp; omega)
  obtain ⟨lf, us, w7, e2⟩ := bk_loop (P := P) (S := S) (a := a) h.hv.b2 (some (N (P - 1))) (some (L (fr a n 0))) w3 none (List.range' 1 n) 0 (P - 1) 0 none (by rw [show P - 1 - (P - 1) = 0 by omega, Int.mul_zero]; rfl) (by omega) (by have := h.hv.b2; omega) (by simp; omega)
  rw [List.length_range', List.nil_append, List.nil_append, ← rr] at e1
  rw [List.length_range', Nat.zero_add, ← rr] at e2
  have e3 := compL_map (vs := [8]) (g := gN 8) (c := mYes) (m := mOp oMin2 [.ex (mOp oIx [.nm 2, .nm 8]), .ex (mOp oIx [.nm 4, .nm 8])]) (e := [some (hvO P S a b), some (N (P - 1)), some (L (fr a n 0)), w3, some (L (bk P b n ++ [0]).reverse), some (N lf), some (N us), w7, none]) (fun d => match d with | .int j => .int (M P S a b j) | _ => .non) (rgD 0 (n + 1)) (fun d hd => by
    rw [rz] at hd
    obtain ⟨j, hj, rfl⟩ := List.mem_map.mp hd
    have hj := List.mem_range.mp hj
    refine ⟨_, _, [some (hvO P S a b), some (N (P - 1)), some (L (fr a n 0)), w3, some (L (bk P b n ++ [0]).reverse), some (N lf), some (N us), w7, some (N j)], rfl, rfl, ?_, rfl⟩
    have hf := fr_get a n 0 j (by omega)
    have hb := back_get P b (n := n) (j := j) (by omega)
    have hM : min ((j : Int) * a) (if j = 0 then 0 else P - 1 - ((n : Int) - j) / b) = M P S a b j := by
      by_cases z : j = 0
      · subst z
        rw [if_pos rfl]
        show min ((0 : Int) * a) 0 = M P S a b 0
        rw [M_zero h.hv, Int.zero_mul]
        rfl
      · rw [if_neg z]
        unfold M
        rw [show S - 1 - (j : Int) = (n : Int) - j by omega]
    rw [Int.zero_add] at hf
    generalize (bk P b n ++ [0]).reverse = B at *
    generalize fr a n 0 = F at *
    generalize (if j = 0 then 0 else P - 1 - ((n : Int) - j) / b) = bv at *
    simp [hf, hb, min_if, hM]) (by rw [rz]; simp; omega)
  have eM : (rgD 0 (n + 1)).map (fun d => match d with | .int j => D.int (M P S a b j) | _ => .non) = I (mo P S a b) := by
    rw [rz, List.map_map]
    unfold mo I
    rw [r2, List.map_map]
    rfl
  rw [eM] at e3
  have g1 : (bk P b n).length < 16000000 := by unfold bk; simp; omega
  have rv : ∀ q : List Int, (I q ++ [D.int 0]).reverse = I (q ++ [0]).reverse := fun q => by simp [I]
  have L0 : L [0] = .l [.d (.int 0)] := rfl
  have B0 : L (bk P b 0) = .l [] := rfl
  rw [L0] at e1
  rw [B0] at e2
  unfold bFr at e1
  unfold bBk at e2
  generalize hq : bk P b n = q at *
  generalize fr a n 0 = F at *
  generalize mo P S a b = mm at *
  have rq : L (q ++ [0]).reverse = .l (.d (.int 0) :: (I q.reverse).map O.d) := by
    show O.l _ = _
    simp [I]
  rw [rq] at e3
  simp [D__law_moments, m__law_moments, t0, t1, c3, r1, e1, e2, g1, r2, e3]
end K16
end
section
set_option Elab.async false
set_option linter.all false
set_option maxRecDepth 100000
set_option maxHeartbeats 4000000
namespace K16
open PySem PySem.Spec L2 L2H Dn K12M K16M
open PyProof.Rows hiding St
def wp (P S a b : Int) (k : Nat) : D := .tup [.int (C P S a b k), .int (k - C P S a b k)]
def wk (P S a b : Int) (n : Nat) : List D := (List.range n).map (wp P S a b)
theorem wk_len (P S a b : Int) (n : Nat) : (wk P S a b n).length = n := by unfold wk; simp
theorem wk_get {P S a b : Int} {n k : Nat} (h : k < n) : (wk P S a b n)[k]? = some (wp P S a b k) := by
  unfold wk
  rw [List.getElem?_map, List.getElem?_range h]
  rfl
theorem wk_succ (P S a b : Int) (n : Nat) : wk P S a b (n + 1) = wk P S a b n ++ [wp P S a b n] := by
  unfold wk
  rw [List.range_succ, List.map_append]
  rfl
theorem wp_of {P S a b : Int} (h : Hv P S a b) {l r : Nat} (x : Std P S a b l ((l : Int) + r)) : wp P S a b (l + r) = .tup [.int l, .int r] := by
  have g := std_le h x
  have l1 := x.l1
  have e := C_of h (k := l + r) (l := (l : Int)) (by rw [Int.natCast_add]; omega) (by rw [Int.natCast_add]; exact x)
  unfold wp
  rw [e, Int.natCast_add, show (l : Int) + r - l = r by omega]
def bIn : MS := mIf (mB (mOp (oEq false) [.ex (mOp oIx [.nm 1, .nm 5]), .nm 4])) (mSeq (mSet 3 (mN 5))
  (mExpr (mMut 2 fApp [.ex (mAll oTup [.ex (mN 4), .ex (mN 3)])]))) (mPass)
abbrev wL (P S a b : Int) (n : Nat) : O := .l ((wk P S a b n).map O.d)
theorem in_loop {P S a b : Int} (h : Bd P S a b) (hs : P + S ≤ 61) {l : Nat} (l1 : (l : Int) ≤ P - 1) : ∀ (m j r : Nat) (w5 : Option O), 1 ≤ j → ((j + m : Nat) : Int) ≤ S → R P S a b l ≤ r → (r : Int) ≤ G P S a b l → (r + 1 = j ∨ ((r : Int) = G P S a b l ∧ G P S a b l < j)) →
    ∃ (r' : Nat) (w5' : Option O), R P S a b l ≤ r' ∧ (r' : Int) ≤ G P S a b l ∧ (r' + 1 = j + m ∨ ((r' : Int) = G P S a b l ∧ G P S a b l < ((j + m : Nat) : Int))) ∧
      forL (gN 5) bIn ((List.range' j m).map fun (i : Nat) => D.int i) [some (hvO P S a b), some (L (mo P S a b)), some (wL P S a b (l + r + 1)), some (N r), some (N l), w5] = .nx [some (hvO P S a b), some (L (mo P S a b)), some (wL P S a b (l + r' + 1)), some (N (r' : Nat)), some (N l), w5']
  | 0, j, r, w5, j1, hj, ra, rb, hr => ⟨r, w5, ra, rb, hr, rfl⟩
  | m + 1, j, r, w5, j1, hj, ra, rb, hr => by
    have g5 : gN 5 [some (hvO P S a b), some (L (mo P S a b)), some (wL P S a b (l + r + 1)), some (N r), some (N l), w5] (D.int j) = some [some (hvO P S a b), some (L (mo P S a b)), some (wL P S a b (l + r + 1)), some (N r), some (N l), some (N j)] := rfl
    have mg := mo_get (P := P) (S := S) (a := a) (b := b) (j := j) (by omega)
    have mi := M_iff h.hv (j : Int) (l : Int)
    have mi2 := M_iff h.hv (j : Int) ((l : Int) - 1)
    have hg : (wk P S a b (l + r + 1)).length < 16000000 := by
      have := G_le h.hv l1
      rw [wk_len]
      omega
    rw [List.range'_succ, List.map_cons, forL_cons, g5, forG_s]
    by_cases z : (j : Int) ≤ G P S a b l
    · have rj : r + 1 = j := by
        rcases hr with hr | hr
        · exact hr
        · omega
      have em : M P S a b j = l := by
        have q1 := mi.mpr z
        have q2 : ¬ (j : Int) ≤ G P S a b ((l : Int) - 1) := fun y => by
          by_cases l0 : (l : Int) = 0
          · rw [l0] at y
            have := G_neg h.hv (l := 0 - 1) (by omega)
            omega
          · rw [R_pos l0] at ra
            omega
        have q3 : ¬ M P S a b j ≤ (l : Int) - 1 := fun y => q2 (mi2.mp y)
        omega
      have st : Std P S a b l ((l : Int) + j) := std_of h.hv (by omega) l1 (by omega) z
      have wpj := wp_of h.hv st
      obtain ⟨r', w5', i1, i2, i3, ih⟩ := in_loop h hs l1 m (j + 1) j (some (N j)) (by omega) (by rw [show j + 1 + m = j + (m + 1) by omega]; exact hj) (by omega) z (.inl rfl)
      refine ⟨r', w5', i1, i2, by rw [show j + (m + 1) = j + 1 + m by omega]; exact i3, ?_⟩
      rw [← ih]
      have ew : wL P S a b (l + j + 1) = .l ((wk P S a b (l + r + 1)).map O.d ++ [.d (.tup [.int l, .int j])]) := by
        show O.l _ = _
        rw [wk_succ, wpj, show l + r + 1 = l + j by omega, List.map_append]
        rfl
      rw [ew]
      generalize mo P S a b = mm at *
      simp [bIn, mg, em, hg]
    · have ne : ¬ M P S a b j = l := fun y => z (mi.mp (by omega))
      have hr' : (r : Int) = G P S a b l ∧ G P S a b l < j := by
        rcases hr with hr | hr
        · omega
        · exact hr
      obtain ⟨r', w5', i1, i2, i3, ih⟩ := in_loop h hs l1 m (j + 1) r (some (N j)) (by omega) (by rw [show j + 1 + m = j + (m + 1) by omega]; exact hj) ra rb (.inr ⟨hr'.1, by omega⟩)
      refine ⟨r', w5', i1, i2, by rw [show j + (m + 1) = j + 1 + m by omega]; exact i3, ?_⟩
      rw [← ih]
      generalize mo P S a b = mm at *
      simp [bIn, mg, ne]
/-- a whole left step, behind the pair that begins it -/
theorem in_all {P S a b : Int} (h : Bd P S a b) (hs : P + S ≤ 61) {l r : Nat} (l1 : (l : Int) ≤ P - 1) (hr : (r : Int) = R P S a b l) (w5 : Option O) :
    ∃ (r' : Nat) (w5' : Option O), (r' : Int) = R P S a b ((l + 1 : Nat) : Int) ∧ forL (gN 5) bIn (rgD ((r : Int) + 1) (S - ((r : Int) + 1)).toNat) [some (hvO P S a b), some (L (mo P S a b)), some (wL P S a b (l + r + 1)), some (N r), some (N l), w5] = .nx [some (hvO P S a b), some (L (mo P S a b)), some (wL P S a b (l + r' + 1)), some (N (r' : Nat)), some (N l), w5'] := by
  have rs := R_le h.hv l1
  have gs := G_le h.hv l1
  have rg := R_G h.hv (l := (l : Int)) (by omega)
  obtain ⟨m, hm⟩ : ∃ m, (S - ((r : Int) + 1)).toNat = m := ⟨_, rfl⟩
  obtain ⟨r', w5', i1, i2, i3, e⟩ := in_loop h hs l1 m (r + 1) r w5 (by omega) (by omega) (by omega) (by omega) (.inl rfl)
  refine ⟨r', w5', ?_, ?_⟩
  · rw [Int.natCast_add, show ((1 : Nat) : Int) = 1 from rfl, R_succ (by omega)]
    omega
  · rw [← rgD_from] at e
    rw [hm]
    exact e
def bOut : MS := mSeq (mIf (mB (mOp oGt [.nm 4, .ex (mC (.int 0))])) (mExpr (mMut 2 fApp [.ex (mAll oTup [.ex (mN 4), .ex (mN 3)])])) (mPass))
  (mFor (mRg [.ex (mOp oPlus [.nm 3, .ex (mC (.int 1))]), .ex (mOp oIx [.nm 0, .ex (mC (.int 1))])]) (gN 5) bIn)
theorem out_loop {P S a b : Int} (h : Bd P S a b) (hs : P + S ≤ 61) : ∀ (m l r : Nat) (w4 w5 : Option O), 1 ≤ l → ((l + m : Nat) : Int) = P → (r : Int) = R P S a b l →
    ∃ (r' : Nat) (w4' w5' : Option O), (r' : Int) = S - 1 ∧ forL (gN 4) bOut ((List.range' l m).map fun (i : Nat) => D.int i) [some (hvO P S a b), some (L (mo P S a b)), some (wL P S a b (l + r)), some (N r), w4, w5] = .nx [some (hvO P S a b), some (L (mo P S a b)), some (wL P S a b (P + S - 1).toNat), some (N (r' : Nat)), w4', w5']
  | 0, l, r, w4, w5, l1, hl, hr => by
    have e : (r : Int) = S - 1 := by
      rw [hr, R_pos (by omega), show (l : Int) = P by omega, G_top h.hv]
    refine ⟨r, w4, w5, e, ?_⟩
    rw [show (P + S - 1).toNat = l + r by omega]
    rfl
  | m + 1, l, r, w4, w5, l1, hl, hr => by
    have lP : (l : Int) ≤ P - 1 := by omega
    obtain ⟨r1, w51, e1, i1⟩ := in_all h hs lP hr w5
    obtain ⟨r', w4', w5', e2, i2⟩ := out_loop h hs m (l + 1) r1 (some (N l)) w51 (by omega) (by rw [show l + 1 + m = l + (m + 1) by omega]; exact hl) e1
    have g4 : gN 4 [some (hvO P S a b), some (L (mo P S a b)), some (wL P S a b (l + r)), some (N r), w4, w5] (D.int l) = some [some (hvO P S a b), some (L (mo P S a b)), some (wL P S a b (l + r)), some (N r), some (N l), w5] := rfl
    have st := left_std h.hv (l := (l : Int)) (by omega) lP
    rw [← hr] at st
    have wpj := wp_of h.hv st
    have rs := R_le h.hv lP
    have hg : (wk P S a b (l + r)).length < 16000000 := by
      rw [wk_len]
      omega
    have lp : 0 < l := by omega
    have c3 := rg62 (r := S) (by have := h.hv.S2; omega) (by have := h.hv.P2; omega)
    have c4 := rg62 (r := (r : Int) + 1) (by omega) (by omega)
    have t1 := hv1 P S a b
    refine ⟨r', w4', w5', e2, ?_⟩
    rw [List.range'_succ, List.map_cons, forL_cons, g4, forG_s, ← i2]
    have ew : wL P S a b (l + r + 1) = .l ((wk P S a b (l + r)).map O.d ++ [.d (.tup [.int l, .int r])]) := by
      show O.l _ = _
      rw [wk_succ, wpj, List.map_append]
      rfl
    rw [ew] at i1
    have ex : l + 1 + r1 = l + r1 + 1 := by omega
    rw [ex]
    generalize mo P S a b = mm at *
    simp [bOut, lp, hg, c3, c4, t1, i1]
theorem e_walk {P S a b : Int} (h : Bd P S a b) (hs : P + S ≤ 61) : D__law_walk [hvO P S a b, L (mo P S a b)] = .ok (wL P S a b (P + S - 1).toNat) [some (hvO P S a b), some (L (mo P S a b))] := by
  have P2 := h.hv.P2
  obtain ⟨m, hm⟩ : ∃ m : Nat, P = (m : Int) + 1 := ⟨(P - 1).toNat, by omega⟩
  have c0 := rg62 (r := P) (by omega) (by have := h.hv.S2; omega)
  have c3 := rg62 (r := S) (by have := h.hv.S2; omega) (by omega)
  have t0 := hv0 P S a b
  have t1 := hv1 P S a b
  obtain ⟨r1, w51, e1, i1⟩ := in_all h hs (l := 0) (r := 0) (by show (0 : Int) ≤ P - 1; omega) rfl none
  obtain ⟨r', w4', w5', e2, i2⟩ := out_loop h hs m 1 r1 (some (N 0)) w51 (by omega) (by omega) e1
  have rz : rgD 0 P.toNat = D.int 0 :: (List.range' 1 m).map fun (i : Nat) => D.int i := by
    rw [rgD_zero, show P.toNat = m + 1 by omega, List.range_eq_range', List.range'_succ, List.map_cons]
    rfl
  have ew : wL P S a b (0 + 0 + 1) = .l [.d (.tup [.int 0, .int 0])] := by
    show O.l _ = _
    rw [wk_succ]
    rfl
  rw [ew] at i1
  have ex : 1 + r1 = 0 + r1 + 1 := by omega
  rw [ex] at i2
  simp at i1
  have first : bOut [some (hvO P S a b), some (L (mo P S a b)), some (.l [.d (.tup [.int 0, .int 0])]), some (N 0), some (N 0), none] = .nx [some (hvO P S a b), some (L (mo P S a b)), some (wL P S a b (0 + r1 + 1)), some (N (r1 : Nat)), some (N 0), w51] := by
    simp [bOut, c3, t1]
    simpa using i1
  have whole : forL (gN 4) bOut (rgD 0 P.toNat) [some (hvO P S a b), some (L (mo P S a b)), some (.l [.d (.tup [.int 0, .int 0])]), some (N 0), none, none] = .nx [some (hvO P S a b), some (L (mo P S a b)), some (wL P S a b (P + S - 1).toNat), some (N (r' : Nat)), w4', w5'] := by
    rw [rz, forL_cons, ← i2]
    have g4 : gN 4 [some (hvO P S a b), some (L (mo P S a b)), some (.l [.d (.tup [.int 0, .int 0])]), some (N 0), none, none] (D.int 0) = some [some (hvO P S a b), some (L (mo P S a b)), some (.l [.d (.tup [.int 0, .int 0])]), some (N 0), some (N 0), none] := rfl
    rw [g4, forG_s, first, forB_nx]
  generalize mo P S a b = mm at *
  unfold bOut bIn at whole
  simp [D__law_walk, m__law_walk, c0, t0, whole]
end K16
end
section
set_option Elab.async false
set_option linter.all false
set_option maxRecDepth 100000
set_option maxHeartbeats 4000000
namespace K16
open PySem PySem.Spec L2 L2H Dn K12M K16M
open PyProof.Rows hiding St
theorem head_of {l : List Nat} {k : Nat} (hs : l.Pairwise (· < ·)) (hk : k ∈ l) (h : ∀ j ∈ l, k ≤ j) : l.head? = some k := by
  cases l with
  | nil => cases hk
  | cons a r =>
    have h1 := h a List.mem_cons_self
    rcases List.mem_cons.mp hk with rfl | hk
    · rfl
    · have := (List.pairwise_cons.mp hs).1 k hk
      omega
abbrev J (ps : List Nat) : List Int := ps.map fun (p : Nat) => (p : Int)
def ffil (q : Int → Bool) : D → Option D
  | .int k => if q k then some (.int k) else none
  | _ => none
theorem ffil_J (q : Int → Bool) : ∀ ps : List Nat, (I (J ps)).filterMap (ffil q) = I (J (ps.filter fun (k : Nat) => q k))
  | [] => rfl
  | p :: ps => by
    have ih := ffil_J q ps
    simp only [List.map_cons, I_cons, List.filterMap_cons, ffil]
    by_cases c : q (p : Int) = true
    · have e : (p :: ps).filter (fun (k : Nat) => q k) = p :: ps.filter fun (k : Nat) => q k := List.filter_cons_of_pos (by simpa using c)
      rw [if_pos c, e]
      simp [ih]
    · have e : (p :: ps).filter (fun (k : Nat) => q k) = ps.filter fun (k : Nat) => q k := List.filter_cons_of_neg (by simpa using c)
      rw [if_neg c, e]
      exact ih
theorem head_J {ps : List Nat} {k : Nat} (h : ps.head? = some k) : (I (J ps))[0]? = some (.int k) := by
  cases ps with
  | nil => cases h
  | cons a r => cases h; rfl
theorem range_sorted (n : Nat) (q : Nat → Bool) : ((List.range n).filter q).Pairwise (· < ·) := List.Pairwise.filter _ (List.pairwise_lt_range (n := n))
/-- stages with this left count -/
def lsel (P S a b : Int) (n : Nat) (l : Int) : List Nat := (List.range n).filter fun k => decide (C P S a b k = l)
def rsel (P S a b : Int) (n : Nat) (r : Int) : List Nat := (List.range n).filter fun k => decide ((k : Int) - C P S a b k = r)
theorem lsel_head {P S a b l : Int} (h : Hv P S a b) (l0 : 0 ≤ l) (l1 : l < P) {k : Nat} (hk : (k : Int) = l + R P S a b l) : (lsel P S a b (P + S - 1).toNat l).head? = some k := by
  have st := left_std h (l := l) l0 (by omega)
  have rl := R_le h (l := l) (by omega)
  rw [← hk] at st
  refine head_of (range_sorted _ _) (List.mem_filter.mpr ⟨List.mem_range.mpr (by omega), ?_⟩) fun j hj => ?_
  · rw [C_of h (by omega) st]
    exact decide_eq_true rfl
  · obtain ⟨j1, j2⟩ := List.mem_filter.mp hj
    have j1 := List.mem_range.mp j1
    have j2 := of_decide_eq_true j2
    have sj := C_std h j (by omega)
    rw [j2] at sj
    have := left_first h sj
    omega
theorem rsel_head {P S a b r : Int} (h : Hv P S a b) (r0 : 0 ≤ r) (r1 : r < S) {k : Nat} (hk : (k : Int) = Q P S a b r) : (rsel P S a b (P + S - 1).toNat r).head? = some k := by
  have P2 := h.P2
  by_cases z : r = 0
  · subst z
    have k0 : k = 0 := by rw [Q, if_pos rfl] at hk; omega
    subst k0
    exact head_of (range_sorted _ _) (List.mem_filter.mpr ⟨List.mem_range.mpr (by omega), decide_eq_true rfl⟩) fun j hj => Nat.zero_le _
  · rw [Q, if_neg z] at hk
    have st := right_std h (r := r) (by omega) (by omega)
    have ml := M_le h (r := r) (by omega)
    rw [Int.add_comm, ← hk] at st
    refine head_of (range_sorted _ _) (List.mem_filter.mpr ⟨List.mem_range.mpr (by omega), ?_⟩) fun j hj => ?_
    · rw [C_of h (by omega) st]
      exact decide_eq_true (by omega)
    · obtain ⟨j1, j2⟩ := List.mem_filter.mp hj
      have j1 := List.mem_range.mp j1
      have j2 := of_decide_eq_true j2
      have sj := C_std h j (by omega)
      have := right_first h sj
      rw [j2] at this
      omega
theorem rg_J (n : Nat) : rgD 0 n = I (J (List.range n)) := by
  rw [rgD_zero]
  unfold I
  rw [List.map_map]
  rfl
theorem lsel_comp (P S a b : Int) {n : Nat} (hn : n ≤ 1000) (l : Int) (o0 o1 o2 o4 o7 o8 : Option O) :
    compL [5] (gN 5) (mB (mOp (oEq false) [.ex (mOp oIx [.ex (mOp oIx [.nm 3, .nm 5]), .ex (mC (.int 0))]), .nm 6])) (mN 5) (rgD 0 n) [o0, o1, o2, some (wL P S a b n), o4, none, some (N l), o7, o8] [] = .ok ((I (J (lsel P S a b n l))).map O.d) [o0, o1, o2, some (wL P S a b n), o4, none, some (N l), o7, o8] := by
  have e := compL_pure (vs := [5]) (g := gN 5) (c := mB (mOp (oEq false) [.ex (mOp oIx [.ex (mOp oIx [.nm 3, .nm 5]), .ex (mC (.int 0))]), .nm 6])) (m := mN 5) (e := [o0, o1, o2, some (wL P S a b n), o4, none, some (N l), o7, o8]) (ffil fun k => decide (C P S a b k.toNat = l)) (rgD 0 n) [] (fun d hd => by
    rw [rgD_zero] at hd
    obtain ⟨k, hk, rfl⟩ := List.mem_map.mp hd
    have hk := List.mem_range.mp hk
    have g := wk_get (P := P) (S := S) (a := a) (b := b) hk
    unfold wp at g
    have hf : ∀ q : Bool, decide (C P S a b ((k : Int)).toNat = l) = q → ffil (fun k => decide (C P S a b k.toNat = l)) (.int k) = if q then some (.int k) else none := fun q e => by rw [← e]; rfl
    rw [Int.toNat_natCast] at hf
    refine ⟨[o0, o1, o2, some (wL P S a b n), o4, some (N k), some (N l), o7, o8], rfl, ?_⟩
    by_cases q : C P S a b k = l
    · refine .inl ⟨.int k, [o0, o1, o2, some (wL P S a b n), o4, some (N k), some (N l), o7, o8], [o0, o1, o2, some (wL P S a b n), o4, some (N k), some (N l), o7, o8], ?_, by simp, hf true (decide_eq_true q), by simp⟩
      simp [g, q]
    · refine .inr ⟨[o0, o1, o2, some (wL P S a b n), o4, some (N k), some (N l), o7, o8], ?_, hf false (decide_eq_false q), by simp⟩
      simp [g, q]) (by rw [rgD_zero]; simp; omega)
  rw [rg_J, ffil_J] at e
  rw [rg_J]
  simpa [lsel] using e
theorem rsel_comp (P S a b : Int) {n : Nat} (hn : n ≤ 1000) (r : Int) (o0 o1 o2 o4 o6 o7 : Option O) :
    compL [5] (gN 5) (mB (mOp (oEq false) [.ex (mOp oIx [.ex (mOp oIx [.nm 3, .nm 5]), .ex (mC (.int 1))]), .nm 8])) (mN 5) (rgD 0 n) [o0, o1, o2, some (wL P S a b n), o4, none, o6, o7, some (N r)] [] = .ok ((I (J (rsel P S a b n r))).map O.d) [o0, o1, o2, some (wL P S a b n), o4, none, o6, o7, some (N r)] := by
  have e := compL_pure (vs := [5]) (g := gN 5) (c := mB (mOp (oEq false) [.ex (mOp oIx [.ex (mOp oIx [.nm 3, .nm 5]), .ex (mC (.int 1))]), .nm 8])) (m := mN 5) (e := [o0, o1, o2, some (wL P S a b n), o4, none, o6, o7, some (N r)]) (ffil fun k => decide (k - C P S a b k.toNat = r)) (rgD 0 n) [] (fun d hd => by
    rw [rgD_zero] at hd
    obtain ⟨k, hk, rfl⟩ := List.mem_map.mp hd
    have hk := List.mem_range.mp hk
    have g := wk_get (P := P) (S := S) (a := a) (b := b) hk
    unfold wp at g
    have hf : ∀ q : Bool, decide ((k : Int) - C P S a b ((k : Int)).toNat = r) = q → ffil (fun k => decide (k - C P S a b k.toNat = r)) (.int k) = if q then some (.int k) else none := fun q e => by rw [← e]; rfl
    rw [Int.toNat_natCast] at hf
    refine ⟨[o0, o1, o2, some (wL P S a b n), o4, some (N k), o6, o7, some (N r)], rfl, ?_⟩
    by_cases q : (k : Int) - C P S a b k = r
    · refine .inl ⟨.int k, [o0, o1, o2, some (wL P S a b n), o4, some (N k), o6, o7, some (N r)], [o0, o1, o2, some (wL P S a b n), o4, some (N k), o6, o7, some (N r)], ?_, by simp, hf true (decide_eq_true q), by simp⟩
      simp [g, q]
    · refine .inr ⟨[o0, o1, o2, some (wL P S a b n), o4, some (N k), o6, o7, some (N r)], ?_, hf false (decide_eq_false q), by simp⟩
      simp [g, q]) (by rw [rgD_zero]; simp; omega)
  rw [rg_J, ffil_J] at e
  rw [rg_J]
  simpa [rsel] using e
end K16
end
section
set_option Elab.async false
set_option linter.all false
set_option maxRecDepth 100000
set_option maxHeartbeats 4000000
namespace K16
open PySem PySem.Spec L2 L2H Dn K12M K16M
open PyProof.Rows hiding St
def bJ : MS := mIf (mTNot (mB (mCall (D__law_same 4) [.ex (mCall D_right_comes [.nm 0, .nm 4]), .ex (mOp oIx [.nm 2, .nm 4])]))) (mRet (mC (.bl false))) (mPass)
theorem j_loop {xs ls rs : List Int} {P S a b : Int} (h : Gp xs ls rs P S a b) (o1 o3 o5 o6 o7 o8 : Option O) : ∀ (its : List Nat) (w4 : Option O), (∀ j ∈ its, 1 ≤ j ∧ (j : Int) < S) →
    ∃ w4', forL (gN 4) bJ (its.map fun (i : Nat) => D.int i) [some (T xs), o1, some (L (mo P S a b)), o3, w4, o5, o6, o7, o8] = .nx [some (T xs), o1, some (L (mo P S a b)), o3, w4', o5, o6, o7, o8]
  | [], w4, _ => ⟨w4, rfl⟩
  | j :: its, w4, hj => by
    obtain ⟨w4', ih⟩ := j_loop h o1 o3 o5 o6 o7 o8 its (some (N j)) (fun d hd => hj d (List.mem_cons_of_mem _ hd))
    have j1 := hj j List.mem_cons_self
    have e := e_comes h (r := (j : Int)) (by omega) j1.2
    have mg := mo_get (P := P) (S := S) (a := a) (b := b) j1.2
    have s := same_int 3 (M P S a b j)
    generalize M P S a b j = v at *
    refine ⟨w4', ?_⟩
    rw [← ih]
    generalize mo P S a b = mm at *
    simp [forL_cons, bJ, e, mg, s]
def bK : MS := mIf (mTNot (mB (mCall (D__law_same 4) [.ex (mCall D_counts_at [.nm 0, .nm 5]), .ex (mOp oIx [.nm 3, .nm 5])]))) (mRet (mC (.bl false))) (mPass)
theorem k_loop {xs ls rs : List Int} {P S a b : Int} (h : Gp xs ls rs P S a b) {n : Nat} (hn : (n : Int) = P + S - 1) (o1 o2 o4 o6 o7 o8 : Option O) : ∀ (its : List Nat) (w5 : Option O), (∀ k ∈ its, k < n) →
    ∃ w5', forL (gN 5) bK (its.map fun (i : Nat) => D.int i) [some (T xs), o1, o2, some (wL P S a b n), o4, w5, o6, o7, o8] = .nx [some (T xs), o1, o2, some (wL P S a b n), o4, w5', o6, o7, o8]
  | [], w5, _ => ⟨w5, rfl⟩
  | k :: its, w5, hk => by
    obtain ⟨w5', ih⟩ := k_loop h hn o1 o2 o4 o6 o7 o8 its (some (N k)) (fun d hd => hk d (List.mem_cons_of_mem _ hd))
    have k1 := hk k List.mem_cons_self
    have e := e_counts_at h (k := k) (by omega)
    have g := wk_get (P := P) (S := S) (a := a) (b := b) k1
    have s := same_row [C P S a b k, k - C P S a b k] (by simp)
    have ew : T [C P S a b k, k - C P S a b k] = .d (wp P S a b k) := rfl
    rw [ew] at e s
    refine ⟨w5', ?_⟩
    rw [← ih]
    generalize wp P S a b k = v at *
    simp [forL_cons, bK, e, g, s]
def bL : MS := mSeq (mSet 7 (mOp oIx [.ex (mComp (mRg [.ex (mOp oLen [.nm 3])]) [5] (gN 5) (mB (mOp (oEq false) [.ex (mOp oIx [.ex (mOp oIx [.nm 3, .nm 5]), .ex (mC (.int 0))]), .nm 6])) (mN 5)), .ex (mC (.int 0))]))
  (mSeq (mIf (mTNot (mB (mCall (D__law_same 4) [.ex (mCall D_left_begins [.nm 0, .nm 6]), .nm 7]))) (mRet (mC (.bl false))) (mPass))
  (mIf (mTNot (mB (mCall (D__law_same 4) [.ex (mCall D_rights_ahead [.nm 0, .nm 6]), .ex (mOp oIx [.ex (mOp oIx [.nm 3, .nm 7]), .ex (mC (.int 1))])]))) (mRet (mC (.bl false))) (mPass)))
theorem l_loop {xs ls rs : List Int} {P S a b : Int} (h : Gp xs ls rs P S a b) (hs : P + S ≤ 61) {n : Nat} (hn : (n : Int) = P + S - 1) (o1 o2 o4 o8 : Option O) : ∀ (its : List Nat) (w5 w6 w7 : Option O), (∀ l ∈ its, (l : Int) < P) →
    ∃ w5' w6' w7', forL (gN 6) bL (its.map fun (i : Nat) => D.int i) [some (T xs), o1, o2, some (wL P S a b n), o4, w5, w6, w7, o8] = .nx [some (T xs), o1, o2, some (wL P S a b n), o4, w5', w6', w7', o8]
  | [], w5, w6, w7, _ => ⟨w5, w6, w7, rfl⟩
  | l :: its, w5, w6, w7, hl => by
    have l1 := hl l List.mem_cons_self
    have rn := R_nn h.hv (l := (l : Int)) (by omega)
    obtain ⟨k, hk⟩ : ∃ k : Nat, (k : Int) = l + R P S a b l := ⟨(l + R P S a b l).toNat, by omega⟩
    have st := left_std h.hv (l := (l : Int)) (by omega) (by omega)
    have rl := R_le h.hv (l := (l : Int)) (by omega)
    obtain ⟨w5', w6', w7', ih⟩ := l_loop h hs hn o1 o2 o4 o8 its none (some (N l)) (some (N k)) (fun d hd => hl d (List.mem_cons_of_mem _ hd))
    have hd := head_J (lsel_head h.hv (l := (l : Int)) (by omega) l1 hk)
    rw [show (P + S - 1).toNat = n by omega] at hd
    have c := lsel_comp P S a b (n := n) (by omega) (l : Int) (some (T xs)) o1 o2 o4 w7 o8
    have e1 := e_left_begins h (l := (l : Int)) (by omega) l1
    have e2 := e_ahead h (l := (l : Int)) (by omega) l1
    rw [← hk] at e1
    have g := wk_get (P := P) (S := S) (a := a) (b := b) (n := n) (k := k) (by omega)
    have ew : wp P S a b k = .tup [.int l, .int (R P S a b l)] := by
      unfold wp
      rw [C_of h.hv (k := k) (by omega) (by rw [hk]; exact st), hk, show (l : Int) + R P S a b l - l = R P S a b l by omega]
    rw [ew] at g
    have s1 := same_int 3 (k : Int)
    have s2 := same_int 3 (R P S a b l)
    have c3 := rg62 (r := (n : Int)) (by omega) (by omega)
    have wn := wk_len P S a b n
    refine ⟨w5', w6', w7', ?_⟩
    rw [← ih]
    generalize R P S a b l = v at *
    generalize lsel P S a b n l = q at *
    simp [forL_cons, bL, c3, wn, c, hd, e1, e2, g, s1, s2]
def bR : MS := mSeq (mSet 7 (mOp oIx [.ex (mComp (mRg [.ex (mOp oLen [.nm 3])]) [5] (gN 5) (mB (mOp (oEq false) [.ex (mOp oIx [.ex (mOp oIx [.nm 3, .nm 5]), .ex (mC (.int 1))]), .nm 8])) (mN 5)), .ex (mC (.int 0))]))
  (mIf (mTNot (mB (mCall (D__law_same 4) [.ex (mCall D_right_begins [.nm 0, .nm 8]), .nm 7]))) (mRet (mC (.bl false))) (mPass))
theorem Q_nn {P S a b r : Int} (h : Hv P S a b) (r0 : 0 ≤ r) : 0 ≤ Q P S a b r := by
  unfold Q
  by_cases z : r = 0
  · rw [if_pos z]
    exact Int.le_refl _
  · rw [if_neg z]
    have := M_nn h (r := r) (by omega)
    omega
theorem r_loop {xs ls rs : List Int} {P S a b : Int} (h : Gp xs ls rs P S a b) (hs : P + S ≤ 61) {n : Nat} (hn : (n : Int) = P + S - 1) (o1 o2 o4 o6 : Option O) : ∀ (its : List Nat) (w5 w7 w8 : Option O), (∀ r ∈ its, (r : Int) < S) →
    ∃ w5' w7' w8', forL (gN 8) bR (its.map fun (i : Nat) => D.int i) [some (T xs), o1, o2, some (wL P S a b n), o4, w5, o6, w7, w8] = .nx [some (T xs), o1, o2, some (wL P S a b n), o4, w5', o6, w7', w8']
  | [], w5, w7, w8, _ => ⟨w5, w7, w8, rfl⟩
  | r :: its, w5, w7, w8, hr => by
    have r1 := hr r List.mem_cons_self
    have qn := Q_nn h.hv (r := (r : Int)) (by omega)
    obtain ⟨k, hk⟩ : ∃ k : Nat, (k : Int) = Q P S a b r := ⟨(Q P S a b r).toNat, by omega⟩
    obtain ⟨w5', w7', w8', ih⟩ := r_loop h hs hn o1 o2 o4 o6 its none (some (N k)) (some (N r)) (fun d hd => hr d (List.mem_cons_of_mem _ hd))
    have hd := head_J (rsel_head h.hv (r := (r : Int)) (by omega) r1 hk)
    rw [show (P + S - 1).toNat = n by omega] at hd
    have c := rsel_comp P S a b (n := n) (by omega) (r : Int) (some (T xs)) o1 o2 o4 o6 w7
    have e1 := e_right_begins h (r := (r : Int)) (by omega) r1
    rw [← hk] at e1
    have s1 := same_int 3 (k : Int)
    have c3 := rg62 (r := (n : Int)) (by omega) (by omega)
    have wn := wk_len P S a b n
    refine ⟨w5', w7', w8', ?_⟩
    rw [← ih]
    generalize rsel P S a b n r = q at *
    simp [forL_cons, bR, c3, wn, c, hd, e1, s1]
theorem e_law_small {xs ls rs : List Int} {P S a b : Int} (h : Gp xs ls rs P S a b) (hs : P + S ≤ 61) : D__law_small [T xs] = .ok tt [some (T xs)] := by
  have P2 := h.hv.P2
  have S2 := h.hv.S2
  obtain ⟨n, hn⟩ : ∃ n : Nat, (n : Int) = P + S - 1 := ⟨(P + S - 1).toNat, by omega⟩
  have e1 := h.halves
  have e2 := e_halves_of h
  have s := same_row [P, S, a, b] (by simp)
  have e3 := e_moments h.bd hs
  have e4 := e_walk h.bd hs
  rw [show (P + S - 1).toNat = n by omega] at e4
  have t0 := hv0 P S a b
  have t1 := hv1 P S a b
  have c1 := rg62 (r := S) (by omega) (by omega)
  have c2 := rg62 (r := (n : Int)) (by omega) (by omega)
  have c3 := rg62 (r := P) (by omega) (by omega)
  have wn := wk_len P S a b n
  have r1 : rgD 1 (S - 1).toNat = (List.range' 1 (S - 1).toNat).map fun (i : Nat) => D.int i := rgD_from 1 _
  have r2 : rgD 0 n = (List.range n).map fun (i : Nat) => D.int i := rgD_zero _
  have r3 : rgD 0 P.toNat = (List.range P.toNat).map fun (i : Nat) => D.int i := rgD_zero _
  have r4 : rgD 0 S.toNat = (List.range S.toNat).map fun (i : Nat) => D.int i := rgD_zero _
  obtain ⟨w4, i1⟩ := j_loop h (some (hvO P S a b)) (some (wL P S a b n)) none none none none (List.range' 1 (S - 1).toNat) none (fun j hj => by rw [List.mem_range'_1] at hj; omega)
  obtain ⟨w5, i2⟩ := k_loop h hn (some (hvO P S a b)) (some (L (mo P S a b))) w4 none none none (List.range n) none (fun k hk => List.mem_range.mp hk)
  obtain ⟨w5', w6', w7', i3⟩ := l_loop h hs hn (some (hvO P S a b)) (some (L (mo P S a b))) w4 none (List.range P.toNat) w5 none none (fun k hk => by have := List.mem_range.mp hk; omega)
  obtain ⟨w5'', w7'', w8'', i4⟩ := r_loop h hs hn (some (hvO P S a b)) (some (L (mo P S a b))) w4 w6' (List.range S.toNat) w5' w7' none (fun k hk => by have := List.mem_range.mp hk; omega)
  rw [← r1, show (S - 1).toNat = S.toNat - 1 by omega] at i1
  rw [← r2] at i2
  rw [← r3] at i3
  rw [← r4] at i4
  have hT : T [P, S, a, b] = hvO P S a b := rfl
  rw [hT] at s
  unfold bJ at i1
  unfold bK at i2
  unfold bL at i3
  unfold bR at i4
  generalize mo P S a b = mm at *
  simp [D__law_small, m__law_small, e1, e2, s, e3, e4, wn, t0, t1, ← hn, c1, c2, c3, i1, i2, i3, i4]
end K16
end
section
set_option Elab.async false
set_option linter.all false
set_option maxRecDepth 100000
set_option maxHeartbeats 4000000
namespace K16
open PySem PySem.Spec L2 L2H Dn K12M K16M
open PyProof.Rows hiding St
theorem e_come_yes {P S a b l r : Int} (h : Bd P S a b) (l0 : 0 ≤ l) (l1 : l < P) (r1 : r < S) (hg : r ≤ G P S a b l) : D__law_come [hvO P S a b, N l, N r] = .ok tt [some (hvO P S a b), some (N l), some (N r)] := by
  have := h.hv.aP
  have := h.hv.bS
  have := h.hv.a2
  have := h.hv.b2
  have := h.pl
  have := h.sl
  have lp := lim_pos
  have t0 := hv0 P S a b
  have t1 := hv1 P S a b
  have t2 := hv2 P S a b
  have t3 := hv3 P S a b
  by_cases z : r ≤ 0
  · simp [D__law_come, m__law_come, z]
  · have c1 : cMul b (P - 1 - l) = true := mul_ok (by omega) (by omega)
    have c2 : cMul r a = true := mul_ok (by omega) (by omega)
    have a0 : 0 < a := by omega
    have e1 : r * a ≤ l ↔ r ≤ l / a := (Int.le_ediv_iff_mul_le a0).symm
    have n1 : ¬ S ≤ r := by omega
    have n2 : ¬ l < 0 := by omega
    by_cases y : r * a ≤ l
    · simp [D__law_come, m__law_come, z, t0, t1, t2, t3, n1, n2, c1, c2, y]
    · have x : b * (P - 1 - l) ≤ S - 1 - r := by
        unfold G at hg
        omega
      simp [D__law_come, m__law_come, z, t0, t1, t2, t3, n1, n2, c1, c2, y, x]
theorem e_come_no {P S a b l r : Int} (h : Bd P S a b) (r0 : 1 ≤ r) (hq : S ≤ r ∨ l < 0 ∨ (l ≤ P ∧ ¬ r ≤ G P S a b l)) : D__law_come [hvO P S a b, N l, N r] = .ok ff [some (hvO P S a b), some (N l), some (N r)] := by
  have := h.hv.aP
  have := h.hv.bS
  have := h.hv.a2
  have := h.hv.b2
  have := h.pl
  have := h.sl
  have lp := lim_pos
  have t0 := hv0 P S a b
  have t1 := hv1 P S a b
  have t2 := hv2 P S a b
  have t3 := hv3 P S a b
  have z : ¬ r ≤ 0 := by omega
  by_cases n1 : S ≤ r
  · simp [D__law_come, m__law_come, z, t0, t1, t2, t3, n1]
  · by_cases n2 : l < 0
    · simp [D__law_come, m__law_come, z, t0, t1, t2, t3, n1, n2]
    · have hg : l ≤ P ∧ ¬ r ≤ G P S a b l := by omega
      have c1 : cMul b (P - 1 - l) = true := mul_ok (by omega) (by omega)
      have c2 : cMul r a = true := mul_ok (by omega) (by omega)
      have a0 : 0 < a := by omega
      have e1 : r * a ≤ l ↔ r ≤ l / a := (Int.le_ediv_iff_mul_le a0).symm
      have g2 := hg.2
      unfold G at g2
      have y : ¬ r * a ≤ l := by omega
      have x : ¬ b * (P - 1 - l) ≤ S - 1 - r := by omega
      simp [D__law_come, m__law_come, z, t0, t1, t2, t3, n1, n2, c1, c2, y, x]
theorem e_stands {P S a b l r : Int} (h : Bd P S a b) (l0 : 0 ≤ l) (l1 : l < P) (r0 : 0 ≤ r) (r1 : r < S) (hr : R P S a b l ≤ r) (hg : r ≤ G P S a b l) : D__law_stands [hvO P S a b, N l, N r] = .ok tt [some (hvO P S a b), some (N l), some (N r)] := by
  have t0 := hv0 P S a b
  have t1 := hv1 P S a b
  have e1 := e_come_yes h l0 l1 r1 hg
  have e2 := e_come_no h (l := l - 1) (r := r + 1) (by omega) (by
    by_cases q : l = 0
    · exact .inr (.inl (by omega))
    · refine .inr (.inr ⟨by omega, ?_⟩)
      rw [R_pos q] at hr
      omega)
  have n1 : ¬ l < 0 := by omega
  have n2 : ¬ P ≤ l := by omega
  have n3 : ¬ r < 0 := by omega
  have n4 : ¬ S ≤ r := by omega
  simp [D__law_stands, m__law_stands, t0, t1, n1, n2, n3, n4, e1, e2]
theorem e_whole {i top : Int} (h0 : 0 ≤ i) (h1 : i < top) : D__law_whole [N i, N top] = .ok tt [some (N i), some (N top)] := by
  simp [D__law_whole, m__law_whole, tyN, h0, h1]
theorem e_law_left {xs ls rs : List Int} {P S a b l : Int} (h : Gp xs ls rs P S a b) (l0 : 0 ≤ l) (l1 : l < P) : D__law_left [T xs, hvO P S a b, N l] = .ok tt [some (T xs), some (hvO P S a b), some (N l)] := by
  have e1 := e_left_begins h l0 l1
  have e2 := e_ahead h l0 l1
  have rn := R_nn h.hv l0
  have rl := R_le h.hv (l := l) (by omega)
  have rg := R_G h.hv l0
  have t0 := hv0 P S a b
  have t1 := hv1 P S a b
  have w1 := e_whole (i := l + R P S a b l) (top := P + S - 1) (by omega) (by omega)
  have w2 := e_whole (i := R P S a b l) (top := S) (by omega) (by omega)
  by_cases z : l = 0
  · subst z
    rw [R_zero] at *
    simp at e1 w1
    simp [D__law_left, m__law_left, e1, e2, t0, t1, w1, w2]
  · have s1 := e_stands h.bd (l := l - 1) (r := R P S a b l) (by omega) (by omega) rn (by omega) (by
      have := R_mono h.hv (l := l - 1) (by omega)
      rw [show l - 1 + 1 = l by omega] at this
      exact this) (by rw [R_pos z]; exact Int.le_refl _)
    have s2 := e_stands h.bd (l := l) (r := R P S a b l) (by omega) (by omega) rn (by omega) (Int.le_refl _) rg
    generalize R P S a b l = v at *
    simp [D__law_left, m__law_left, e1, e2, t0, t1, w1, w2, z, s1, s2]
theorem e_law_right {xs ls rs : List Int} {P S a b r : Int} (h : Gp xs ls rs P S a b) (r0 : 0 ≤ r) (r1 : r < S) : D__law_right [T xs, hvO P S a b, N r] = .ok tt [some (T xs), some (hvO P S a b), some (N r)] := by
  have e1 := e_right_begins h r0 r1
  have P2 := h.hv.P2
  have t0 := hv0 P S a b
  have t1 := hv1 P S a b
  by_cases z : r = 0
  · subst z
    have q0 : Q P S a b 0 = 0 := if_pos rfl
    rw [q0] at e1
    have w1 := e_whole (i := 0) (top := P + S - 1) (by omega) (by omega)
    simp [D__law_right, m__law_right, e1, t0, t1, w1]
  · have q0 : Q P S a b r = r + M P S a b r := if_neg z
    rw [q0] at e1
    have mn := M_nn h.hv (r := r) (by omega)
    have ml := M_le h.hv (r := r) (by omega)
    have e2 := e_comes h (r := r) (by omega) r1
    have w1 := e_whole (i := r + M P S a b r) (top := P + S - 1) (by omega) (by omega)
    have w2 := e_whole (i := M P S a b r) (top := P) (by omega) (by omega)
    have rm := RM h.hv (r := r) (by omega)
    have gm := GM h.hv r
    have s1 := e_stands h.bd (l := M P S a b r) (r := r) (by omega) (by omega) r0 r1 (by omega) gm
    have s2 := e_stands h.bd (l := M P S a b r) (r := r - 1) (by omega) (by omega) (by omega) (by omega) (by omega) (by omega)
    have cn : M P S a b r + r = r + M P S a b r := Int.add_comm _ _
    by_cases y : 0 < M P S a b r
    · have n := e_come_no h.bd (l := M P S a b r - 1) (r := r) (by omega) (.inr (.inr ⟨by omega, fun x => by
        have := (M_iff h.hv r (M P S a b r - 1)).mpr x
        omega⟩))
      generalize M P S a b r = v at *
      simp [D__law_right, m__law_right, e1, t0, t1, w1, z, e2, w2, cn, y, n, s1, s2]
    · generalize M P S a b r = v at *
      simp [D__law_right, m__law_right, e1, t0, t1, w1, z, e2, w2, cn, y, s1, s2]
end K16
end
section
set_option Elab.async false
set_option linter.all false
set_option maxRecDepth 100000
set_option maxHeartbeats 8000000
namespace K16
open PySem PySem.Spec L2 L2H Dn K12M K16M
open PyProof.Rows hiding St
def bWS : MS := mSeq (mSet 7 (mCall D_counts_at [.nm 1, .nm 6]))
  (mSeq (mIf (mTOr (mTNot (mB (mOp (oIsi "tuple") [.nm 7]))) (mB (mOp (oEq true) [.ex (mOp oLen [.nm 7]), .ex (mC (.int 2))]))) (mRet (mC (.bl false))) (mPass))
  (mSeq (mIf (mTOr (mTNot (mB (mCall D__law_whole [.ex (mOp oIx [.nm 7, .ex (mC (.int 0))]), .ex (mOp oIx [.nm 2, .ex (mC (.int 0))])]))) (mTNot (mB (mCall D__law_whole [.ex (mOp oIx [.nm 7, .ex (mC (.int 1))]), .ex (mOp oIx [.nm 2, .ex (mC (.int 1))])])))) (mRet (mC (.bl false))) (mPass))
  (mIf (mTOr (mB (mOp (oEq true) [.ex (mOp oPlus [.ex (mOp oIx [.nm 7, .ex (mC (.int 0))]), .ex (mOp oIx [.nm 7, .ex (mC (.int 1))])]), .nm 6])) (mTNot (mB (mCall D__law_stands [.nm 2, .ex (mOp oIx [.nm 7, .ex (mC (.int 0))]), .ex (mOp oIx [.nm 7, .ex (mC (.int 1))])])))) (mRet (mC (.bl false))) (mPass))))
theorem two0 (x y : Int) : atO (.d (.tup [.int x, .int y])) (0 : Int) = some (.int x) := rfl
theorem two1 (x y : Int) : atO (.d (.tup [.int x, .int y])) (1 : Int) = some (.int y) := rfl
theorem s_loop {xs ls rs : List Int} {P S a b : Int} (h : Gp xs ls rs P S a b) (o0 o3 o4 o5 o8 o9 o10 : Option O) : ∀ (ks : List Int) (w6 w7 : Option O), (∀ k ∈ ks, 0 ≤ k ∧ k ≤ P + S - 2) →
    ∃ w6' w7', forL (gN 6) bWS (I ks) [o0, some (T xs), some (hvO P S a b), o3, o4, o5, w6, w7, o8, o9, o10] = .nx [o0, some (T xs), some (hvO P S a b), o3, o4, o5, w6', w7', o8, o9, o10]
  | [], w6, w7, _ => ⟨w6, w7, rfl⟩
  | k :: ks, w6, w7, hk => by
    have k1 := hk k List.mem_cons_self
    obtain ⟨n, rfl⟩ := Int.eq_ofNat_of_zero_le k1.1
    have e := e_counts_at h (k := n) k1.2
    have st := C_std h.hv n k1.2
    have sl := std_le h.hv st
    obtain ⟨w6', w7', ih⟩ := s_loop h o0 o3 o4 o5 o8 o9 o10 ks (some (N n)) (some (T [C P S a b n, n - C P S a b n])) (fun d hd => hk d (List.mem_cons_of_mem _ hd))
    have w1 := e_whole (i := C P S a b n) (top := P) st.l0 (by have := st.l1; omega)
    have w2 := e_whole (i := (n : Int) - C P S a b n) (top := S) sl.1 (by omega)
    have ss := e_stands h.bd (l := C P S a b n) (r := (n : Int) - C P S a b n) st.l0 (by have := st.l1; omega) sl.1 (by omega) (by have := st.lo; omega) (by have := st.hi; omega)
    have hT : T [C P S a b n, n - C P S a b n] = .d (.tup [.int (C P S a b n), .int (n - C P S a b n)]) := rfl
    have cs : C P S a b n + ((n : Int) - C P S a b n) = n := by omega
    rw [hT] at e ih
    have t0 := hv0 P S a b
    have t1 := hv1 P S a b
    refine ⟨w6', w7', ?_⟩
    rw [I_cons, forL_cons, ← ih]
    have g6 : gN 6 [o0, some (T xs), some (hvO P S a b), o3, o4, o5, w6, w7, o8, o9, o10] (D.int n) = some [o0, some (T xs), some (hvO P S a b), o3, o4, o5, some (N n), w7, o8, o9, o10] := rfl
    rw [g6, forG_s]
    generalize C P S a b n = c at *
    generalize hv' : (n : Int) - c = v at *
    have u0 := two0 c v
    have u1 := two1 c v
    simp [bWS, e, tyN, u0, u1, t0, t1, w1, w2, cs, ss]
def bWL : MS := mIf (mTNot (mB (mCall D__law_left [.nm 1, .nm 2, .nm 9]))) (mRet (mC (.bl false))) (mPass)
theorem wl_loop {xs ls rs : List Int} {P S a b : Int} (h : Gp xs ls rs P S a b) (o0 o3 o4 o5 o6 o7 o8 o10 : Option O) : ∀ (ks : List Int) (w9 : Option O), (∀ k ∈ ks, 0 ≤ k ∧ k < P) →
    ∃ w9', forL (gN 9) bWL (I ks) [o0, some (T xs), some (hvO P S a b), o3, o4, o5, o6, o7, o8, w9, o10] = .nx [o0, some (T xs), some (hvO P S a b), o3, o4, o5, o6, o7, o8, w9', o10]
  | [], w9, _ => ⟨w9, rfl⟩
  | k :: ks, w9, hk => by
    have k1 := hk k List.mem_cons_self
    obtain ⟨w9', ih⟩ := wl_loop h o0 o3 o4 o5 o6 o7 o8 o10 ks (some (N k)) (fun d hd => hk d (List.mem_cons_of_mem _ hd))
    have e := e_law_left h k1.1 k1.2
    refine ⟨w9', ?_⟩
    rw [I_cons, forL_cons, ← ih]
    have g9 : gN 9 [o0, some (T xs), some (hvO P S a b), o3, o4, o5, o6, o7, o8, w9, o10] (D.int k) = some [o0, some (T xs), some (hvO P S a b), o3, o4, o5, o6, o7, o8, some (N k), o10] := rfl
    rw [g9, forG_s]
    simp [bWL, e]
def bWR : MS := mIf (mTNot (mB (mCall D__law_right [.nm 1, .nm 2, .nm 10]))) (mRet (mC (.bl false))) (mPass)
theorem wr_loop {xs ls rs : List Int} {P S a b : Int} (h : Gp xs ls rs P S a b) (o0 o3 o4 o5 o6 o7 o8 o9 : Option O) : ∀ (ks : List Int) (w10 : Option O), (∀ k ∈ ks, 0 ≤ k ∧ k < S) →
    ∃ w10', forL (gN 10) bWR (I ks) [o0, some (T xs), some (hvO P S a b), o3, o4, o5, o6, o7, o8, o9, w10] = .nx [o0, some (T xs), some (hvO P S a b), o3, o4, o5, o6, o7, o8, o9, w10']
  | [], w10, _ => ⟨w10, rfl⟩
  | k :: ks, w10, hk => by
    have k1 := hk k List.mem_cons_self
    obtain ⟨w10', ih⟩ := wr_loop h o0 o3 o4 o5 o6 o7 o8 o9 ks (some (N k)) (fun d hd => hk d (List.mem_cons_of_mem _ hd))
    have e := e_law_right h k1.1 k1.2
    refine ⟨w10', ?_⟩
    rw [I_cons, forL_cons, ← ih]
    have g10 : gN 10 [o0, some (T xs), some (hvO P S a b), o3, o4, o5, o6, o7, o8, o9, w10] (D.int k) = some [o0, some (T xs), some (hvO P S a b), o3, o4, o5, o6, o7, o8, o9, some (N k)] := rfl
    rw [g10, forG_s]
    simp [bWR, e]
theorem block_of {p a n : Int} (ha : 2 ≤ a) (hp : 1 ≤ p) (n0 : 0 ≤ n) (n1 : n < p) : 0 ≤ a * n ∧ a * n < p * a := by
  refine ⟨Int.mul_nonneg (by omega) n0, ?_⟩
  rw [Int.mul_comm p]
  exact Int.mul_lt_mul_of_pos_left n1 (by omega)
theorem e_wide (a0 b0 c0 : Int) : ∃ a' b' c', D__law_wide [.l (Pl a0 b0 c0)] = .ok tt [some (.l (Pl a' b' c'))] := by
  have lp := lim_pos
  obtain ⟨x1, y1, z1, xs, hz, hl, e1⟩ := e_wide_sizes a0 b0 c0
  obtain ⟨ls, rs, P, S, a, b, h⟩ := Gp.of hz hl
  have P2 := h.hv.P2
  have S2 := h.hv.S2
  have a2 := h.hv.a2
  have b2 := h.hv.b2
  have aP := h.hv.aP
  have bS := h.hv.bS
  have pl := h.pl
  have sl := h.sl
  obtain ⟨p, p1, ep, pS⟩ := h.hv.p
  obtain ⟨s, s1, es, sP⟩ := h.hv.s
  have dp : P / a = p := by rw [ep]; exact Int.mul_ediv_cancel _ (by omega)
  have ds : S / b = s := by rw [es]; exact Int.mul_ediv_cancel _ (by omega)
  have e2 := h.halves
  have e3 := e_halves_of h
  have sm : D__law_same 4 [hvO P S a b, hvO P S a b] = .ok tt [some (hvO P S a b), some (hvO P S a b)] := same_row [P, S, a, b] (by simp)
  have t0 := hv0 P S a b
  have t1 := hv1 P S a b
  have t2 := hv2 P S a b
  have t3 := hv3 P S a b
  have d1 : cDiv P a = true := div_ok (by omega) (by omega)
  have d2 : cDiv S b = true := div_ok (by omega) (by omega)
  have pP : p ≤ P := by
    rw [ep]
    exact le_mul1 (by omega) (by omega)
  have sS : s ≤ S := by
    rw [es]
    exact le_mul1 (by omega) (by omega)
  obtain ⟨n1, x2, y2, z2, n10, n11, e4⟩ := e_number x1 y1 z1 (top := P + S - 1) (by omega)
  obtain ⟨n2, x3, y3, z3, n20, n21, e5⟩ := e_number x2 y2 z2 (top := P + S - 1) (by omega)
  obtain ⟨t, x4, y4, z4, q0, q1, e6⟩ := e_take x3 y3 z3 (many := 3) (by omega) (by omega)
  obtain ⟨mt, hmt⟩ : ∃ mt, mt = min (S - 1) p := ⟨_, rfl⟩
  have m0 : 1 ≤ mt ∧ mt ≤ S - 1 := by omega
  have m1 : cMul mt a = true := mul_ok (by omega) (by omega)
  have mpos : 0 ≤ mt * a := Int.mul_nonneg (by omega) (by omega)
  have hk : ∀ k ∈ [0, P + S - 1 - 1, n1, n2, min (P + S - 1 - 1) (mt + mt * a + t)], 0 ≤ k ∧ k ≤ P + S - 2 := fun k hk => by
    simp at hk
    generalize mt * a = ma at *
    omega
  obtain ⟨w6, w7, i1⟩ := s_loop h (some (.l (Pl x4 y4 z4))) (some (N (P + S - 1))) (some (N mt)) (some (F [0, P + S - 1 - 1, n1, n2, min (P + S - 1 - 1) (mt + mt * a + t)])) none none none [0, P + S - 1 - 1, n1, n2, min (P + S - 1 - 1) (mt + mt * a + t)] none none hk
  obtain ⟨n3, x5, y5, z5, n30, n31, e7⟩ := e_number x4 y4 z4 (top := max 1 p) (by omega)
  have bl1 := block_of (p := p) (n := n3) a2 p1 n30 (by omega)
  rw [← ep] at bl1
  have m2 : cMul a n3 = true := mul_ok (by omega) (by omega)
  obtain ⟨n4, x6, y6, z6, n40, n41, e8⟩ := e_number x5 y5 z5 (top := P) (by omega)
  obtain ⟨w9, i2⟩ := wl_loop h (some (.l (Pl x6 y6 z6))) (some (N (P + S - 1))) (some (N mt)) (some (F [0, P + S - 1 - 1, n1, n2, min (P + S - 1 - 1) (mt + mt * a + t)])) w6 w7 (some (N (a * n3))) none [0, 1, P - 1, n4, a * n3, min (a * n3 + 1) (P - 1)] none (fun k hk => by
    simp at hk
    generalize a * n3 = an at *
    omega)
  obtain ⟨n5, x7, y7, z7, n50, n51, e9⟩ := e_number x6 y6 z6 (top := max 1 s) (by omega)
  have bl2 := block_of (p := s) (n := n5) b2 s1 n50 (by omega)
  rw [← es] at bl2
  have m3 : cMul b n5 = true := mul_ok (by omega) (by omega)
  obtain ⟨n6, x8, y8, z8, n60, n61, e10⟩ := e_number x7 y7 z7 (top := S) (by omega)
  obtain ⟨w10, i3⟩ := wr_loop h (some (.l (Pl x8 y8 z8))) (some (N (P + S - 1))) (some (N mt)) (some (F [0, P + S - 1 - 1, n1, n2, min (P + S - 1 - 1) (mt + mt * a + t)])) w6 w7 (some (N (b * n5))) w9 [0, 1, S - 1, n6, b * n5, mt, min (mt + 1) (S - 1)] none (fun k hk => by
    simp at hk
    generalize b * n5 = bn at *
    omega)
  refine ⟨x8, y8, z8, ?_⟩
  have hF : F [0, P + S - 1 - 1, n1, n2, min (P + S - 1 - 1) (mt + mt * a + t)] = .d (.lst [.int 0, .int (P + S - 1 - 1), .int n1, .int n2, .int (min (P + S - 1 - 1) (mt + mt * a + t))]) := rfl
  rw [hF] at i1 i2 i3
  unfold bWS at i1
  unfold bWL at i2
  unfold bWR at i3
  simp only [I_cons, I_nil] at i1 i2 i3
  simp [D__law_wide, m__law_wide, e1, e2, e3, sm, t0, t1, t2, t3, d1, dp, ← hmt, min_if, max_if, e4, e5, m1, e6, i1, e7, m2, e8, i2, d2, ds, e9, m3, e10, i3]
end K16
end
section
set_option Elab.async false
set_option linter.all false
set_option maxRecDepth 100000
set_option maxHeartbeats 8000000
namespace K16
open PySem PySem.Spec L2 L2H Dn K12M K16M
open PyProof.Rows hiding St
theorem lk_w (a b : D) : List.lookup (Str.ofString "word") [(Str.ofString "at", a), (Str.ofString "word", b)] = some b := by rfl
theorem lk_a (a b : D) : List.lookup (Str.ofString "at") [(Str.ofString "at", a), (Str.ofString "word", b)] = some a := by rfl
theorem at8_0 (v0 v1 v2 v3 v4 v5 v6 v7 : D) : atO (.l [.d v0, .d v1, .d v2, .d v3, .d v4, .d v5, .d v6, .d v7]) (0 : Int) = some v0 := by rfl
theorem at8_1 (v0 v1 v2 v3 v4 v5 v6 v7 : D) : atO (.l [.d v0, .d v1, .d v2, .d v3, .d v4, .d v5, .d v6, .d v7]) (1 : Int) = some v1 := by rfl
theorem at8_2 (v0 v1 v2 v3 v4 v5 v6 v7 : D) : atO (.l [.d v0, .d v1, .d v2, .d v3, .d v4, .d v5, .d v6, .d v7]) (2 : Int) = some v2 := by rfl
theorem at8_3 (v0 v1 v2 v3 v4 v5 v6 v7 : D) : atO (.l [.d v0, .d v1, .d v2, .d v3, .d v4, .d v5, .d v6, .d v7]) (3 : Int) = some v3 := by rfl
theorem at8_4 (v0 v1 v2 v3 v4 v5 v6 v7 : D) : atO (.l [.d v0, .d v1, .d v2, .d v3, .d v4, .d v5, .d v6, .d v7]) (4 : Int) = some v4 := by rfl
theorem at8_5 (v0 v1 v2 v3 v4 v5 v6 v7 : D) : atO (.l [.d v0, .d v1, .d v2, .d v3, .d v4, .d v5, .d v6, .d v7]) (5 : Int) = some v5 := by rfl
theorem at8_6 (v0 v1 v2 v3 v4 v5 v6 v7 : D) : atO (.l [.d v0, .d v1, .d v2, .d v3, .d v4, .d v5, .d v6, .d v7]) (6 : Int) = some v6 := by rfl
theorem at8_7 (v0 v1 v2 v3 v4 v5 v6 v7 : D) : atO (.l [.d v0, .d v1, .d v2, .d v3, .d v4, .d v5, .d v6, .d v7]) (7 : Int) = some v7 := by rfl
theorem tb_right_comes {ys : List Int} {d : D} {w : Str} {by_ : Int} (hb : by_ = 1 ∨ by_ = 2) (e : D_right_comes [T ys, .d d] = .exc (refX w) [some (T ys), some (.d d)]) : D__law_told [N by_, T ys, .d d] = .ok (refT w) [some (N by_), some (T ys), some (.d d)] := by
  unfold refX at e
  rcases hb with rfl | rfl <;> simp [D__law_told, m__law_told, xCat_StoodError, xIs_NotUsable, xIs_CodeError, xIs_TooMany, xKnown, lk_w, lk_a, e]
theorem to_right_comes {ys : List Int} {d : D} {o : O} {by_ : Int} (hb : by_ = 1 ∨ by_ = 2) (e : D_right_comes [T ys, .d d] = .ok o [some (T ys), some (.d d)]) : D__law_told [N by_, T ys, .d d] = .ok (.d (.tup [])) [some (N by_), some (T ys), some (.d d)] := by
  rcases hb with rfl | rfl <;> simp [D__law_told, m__law_told, xCat_StoodError, xIs_NotUsable, xIs_CodeError, xIs_TooMany, xKnown, lk_w, lk_a, e]
theorem tb_rights_ahead {ys : List Int} {d : D} {w : Str} {by_ : Int} (hb : by_ = 3 ∨ by_ = 4) (e : D_rights_ahead [T ys, .d d] = .exc (refX w) [some (T ys), some (.d d)]) : D__law_told [N by_, T ys, .d d] = .ok (refT w) [some (N by_), some (T ys), some (.d d)] := by
  unfold refX at e
  rcases hb with rfl | rfl <;> simp [D__law_told, m__law_told, xCat_StoodError, xIs_NotUsable, xIs_CodeError, xIs_TooMany, xKnown, lk_w, lk_a, e]
theorem to_rights_ahead {ys : List Int} {d : D} {o : O} {by_ : Int} (hb : by_ = 3 ∨ by_ = 4) (e : D_rights_ahead [T ys, .d d] = .ok o [some (T ys), some (.d d)]) : D__law_told [N by_, T ys, .d d] = .ok (.d (.tup [])) [some (N by_), some (T ys), some (.d d)] := by
  rcases hb with rfl | rfl <;> simp [D__law_told, m__law_told, xCat_StoodError, xIs_NotUsable, xIs_CodeError, xIs_TooMany, xKnown, lk_w, lk_a, e]
theorem tb_counts_at {ys : List Int} {d : D} {w : Str} {by_ : Int} (hb : by_ = 5 ∨ by_ = 6) (e : D_counts_at [T ys, .d d] = .exc (refX w) [some (T ys), some (.d d)]) : D__law_told [N by_, T ys, .d d] = .ok (refT w) [some (N by_), some (T ys), some (.d d)] := by
  unfold refX at e
  rcases hb with rfl | rfl <;> simp [D__law_told, m__law_told, xCat_StoodError, xIs_NotUsable, xIs_CodeError, xIs_TooMany, xKnown, lk_w, lk_a, e]
theorem to_counts_at {ys : List Int} {d : D} {o : O} {by_ : Int} (hb : by_ = 5 ∨ by_ = 6) (e : D_counts_at [T ys, .d d] = .ok o [some (T ys), some (.d d)]) : D__law_told [N by_, T ys, .d d] = .ok (.d (.tup [])) [some (N by_), some (T ys), some (.d d)] := by
  rcases hb with rfl | rfl <;> simp [D__law_told, m__law_told, xCat_StoodError, xIs_NotUsable, xIs_CodeError, xIs_TooMany, xKnown, lk_w, lk_a, e]
theorem tb_left_begins {ys : List Int} {d : D} {w : Str} {by_ : Int} (hb : by_ = 7 ∨ by_ = 8) (e : D_left_begins [T ys, .d d] = .exc (refX w) [some (T ys), some (.d d)]) : D__law_told [N by_, T ys, .d d] = .ok (refT w) [some (N by_), some (T ys), some (.d d)] := by
  unfold refX at e
  rcases hb with rfl | rfl <;> simp [D__law_told, m__law_told, xCat_StoodError, xIs_NotUsable, xIs_CodeError, xIs_TooMany, xKnown, lk_w, lk_a, e]
theorem to_left_begins {ys : List Int} {d : D} {o : O} {by_ : Int} (hb : by_ = 7 ∨ by_ = 8) (e : D_left_begins [T ys, .d d] = .ok o [some (T ys), some (.d d)]) : D__law_told [N by_, T ys, .d d] = .ok (.d (.tup [])) [some (N by_), some (T ys), some (.d d)] := by
  rcases hb with rfl | rfl <;> simp [D__law_told, m__law_told, xCat_StoodError, xIs_NotUsable, xIs_CodeError, xIs_TooMany, xKnown, lk_w, lk_a, e]
theorem tb_right_begins {ys : List Int} {d : D} {w : Str} {by_ : Int} (hb : by_ = 9 ∨ by_ = 10) (e : D_right_begins [T ys, .d d] = .exc (refX w) [some (T ys), some (.d d)]) : D__law_told [N by_, T ys, .d d] = .ok (refT w) [some (N by_), some (T ys), some (.d d)] := by
  unfold refX at e
  rcases hb with rfl | rfl <;> simp [D__law_told, m__law_told, xCat_StoodError, xIs_NotUsable, xIs_CodeError, xIs_TooMany, xKnown, lk_w, lk_a, e]
theorem to_right_begins {ys : List Int} {d : D} {o : O} {by_ : Int} (hb : by_ = 9 ∨ by_ = 10) (e : D_right_begins [T ys, .d d] = .ok o [some (T ys), some (.d d)]) : D__law_told [N by_, T ys, .d d] = .ok (.d (.tup [])) [some (N by_), some (T ys), some (.d d)] := by
  rcases hb with rfl | rfl <;> simp [D__law_told, m__law_told, xCat_StoodError, xIs_NotUsable, xIs_CodeError, xIs_TooMany, xKnown, lk_w, lk_a, e]
theorem tb_halves {ys : List Int} {d : D} {w : Str} {by_ : Int} (hb : by_ = 0 ∨ by_ = 11) (e : D_halves_of [T ys] = .exc (refX w) [some (T ys)]) : D__law_told [N by_, T ys, .d d] = .ok (refT w) [some (N by_), some (T ys), some (.d d)] := by
  unfold refX at e
  rcases hb with rfl | rfl <;> simp [D__law_told, m__law_told, xCat_StoodError, xIs_NotUsable, xIs_CodeError, xIs_TooMany, xKnown, lk_w, lk_a, e]
theorem to_halves {ys : List Int} {d : D} {o : O} {by_ : Int} (hb : by_ = 0 ∨ by_ = 11) (e : D_halves_of [T ys] = .ok o [some (T ys)]) : D__law_told [N by_, T ys, .d d] = .ok (.d (.tup [])) [some (N by_), some (T ys), some (.d d)] := by
  rcases hb with rfl | rfl <;> simp [D__law_told, m__law_told, xCat_StoodError, xIs_NotUsable, xIs_CodeError, xIs_TooMany, xKnown, lk_w, lk_a, e]
/-- a row of the law's table -/
structure Row (xs : List Int) (w : Int) (word : Str) (low top : Int) : Prop where
  l01 : low = 0 ∨ low = 1
  t1 : low < top
  t2 : top ≤ 61
  ok1 : ∀ by_ : Int, by_ = w ∨ by_ = w + 1 → D__law_told [N by_, T xs, N low] = .ok (.d (.tup [])) [some (N by_), some (T xs), some (N low)]
  ok2 : ∀ by_ : Int, by_ = w ∨ by_ = w + 1 → D__law_told [N by_, T xs, N (top - 1)] = .ok (.d (.tup [])) [some (N by_), some (T xs), some (N (top - 1))]
  bad : ∀ (by_ : Int) (d : D), by_ = w ∨ by_ = w + 1 → below d top = false ∨ d = .int (low - 1) → D__law_told [N by_, T xs, .d d] = .ok (refT word) [some (N by_), some (T xs), some (.d d)]
  short : ∀ (by_ : Int) (ys : List Int) (d : D), by_ = w ∨ by_ = w + 1 → ys.length < 2 → D__law_told [N by_, T ys, .d d] = .ok (refT "inner") [some (N by_), some (T ys), some (.d d)]
  same : D__law_same 4 [refT word, refT word] = .ok tt [some (refT word), some (refT word)]
theorem sref_inner : D__law_same 4 [refT "inner", refT "inner"] = .ok tt [some (refT "inner"), some (refT "inner")] := same_ref (by decide +kernel)
theorem below_neg {low top : Int} (h : low = 0) : below (.int (low - 1)) top = false := by
  subst h
  simp [below]
theorem row_right {xs ls rs : List Int} {P S a b : Int} (h : Gp xs ls rs P S a b) (hs : P + S ≤ 61) : Row xs 1 "right" 1 S :=
  ⟨.inr rfl, by have := h.hv.S2; omega, by have := h.hv.P2; omega, fun _ hb => to_right_comes hb (e_comes h (r := 1) (by omega) (by have := h.hv.S2; omega)), fun _ hb => to_right_comes hb (e_comes h (r := S - 1) (by have := h.hv.S2; omega) (by omega)),
   fun _ d hb hd => tb_right_comes hb (e_comes_bad h (hd.imp id fun z => z)), fun _ ys d hb hl => tb_right_comes hb (e_comes_short hl), same_ref (by decide +kernel)⟩
theorem row_left {xs ls rs : List Int} {P S a b : Int} (h : Gp xs ls rs P S a b) (hs : P + S ≤ 61) : Row xs 3 "left" 0 P :=
  ⟨.inl rfl, by have := h.hv.P2; omega, by have := h.hv.S2; omega, fun _ hb => to_rights_ahead hb (e_ahead h (l := 0) (by omega) (by have := h.hv.P2; omega)), fun _ hb => to_rights_ahead hb (e_ahead h (l := P - 1) (by have := h.hv.P2; omega) (by omega)),
   fun _ d hb hd => tb_rights_ahead hb (e_ahead_bad h (hd.elim id fun z => by rw [z]; exact below_neg rfl)), fun _ ys d hb hl => tb_rights_ahead hb (e_ahead_short hl), same_ref (by decide +kernel)⟩
theorem row_stage {xs ls rs : List Int} {P S a b : Int} (h : Gp xs ls rs P S a b) (hs : P + S ≤ 61) : Row xs 5 "stage" 0 (P + S - 1) := by
  have P2 := h.hv.P2
  have S2 := h.hv.S2
  refine ⟨.inl rfl, by omega, by omega, fun _ hb => to_counts_at hb (e_counts_at h (k := 0) (by show (0 : Int) ≤ P + S - 2; omega)), fun _ hb => ?_, fun _ d hb hd => tb_counts_at hb (e_counts_bad h (hd.elim id fun z => by rw [z]; exact below_neg rfl)), fun _ ys d hb hl => tb_counts_at hb (e_counts_short hl), same_ref (by decide +kernel)⟩
  obtain ⟨n, hn⟩ : ∃ n : Nat, (n : Int) = P + S - 1 - 1 := ⟨(P + S - 1 - 1).toNat, by omega⟩
  rw [← hn]
  exact to_counts_at hb (e_counts_at h (k := n) (by omega))
theorem row_lbegin {xs ls rs : List Int} {P S a b : Int} (h : Gp xs ls rs P S a b) (hs : P + S ≤ 61) : Row xs 7 "left" 0 P :=
  ⟨.inl rfl, by have := h.hv.P2; omega, by have := h.hv.S2; omega, fun _ hb => to_left_begins hb (e_left_begins h (l := 0) (by omega) (by have := h.hv.P2; omega)), fun _ hb => to_left_begins hb (e_left_begins h (l := P - 1) (by have := h.hv.P2; omega) (by omega)),
   fun _ d hb hd => tb_left_begins hb (e_left_bad h (hd.elim id fun z => by rw [z]; exact below_neg rfl)), fun _ ys d hb hl => tb_left_begins hb (e_left_short hl), same_ref (by decide +kernel)⟩
theorem row_rbegin {xs ls rs : List Int} {P S a b : Int} (h : Gp xs ls rs P S a b) (hs : P + S ≤ 61) : Row xs 9 "right" 0 S :=
  ⟨.inl rfl, by have := h.hv.S2; omega, by have := h.hv.P2; omega, fun _ hb => to_right_begins hb (e_right_begins h (r := 0) (by omega) (by have := h.hv.S2; omega)), fun _ hb => to_right_begins hb (e_right_begins h (r := S - 1) (by have := h.hv.S2; omega) (by omega)),
   fun _ d hb hd => tb_right_begins hb (e_right_bad h (hd.elim id fun z => by rw [z]; exact below_neg rfl)), fun _ ys d hb hl => tb_right_begins hb (e_right_short hl), same_ref (by decide +kernel)⟩
end K16
end
section
set_option Elab.async false
set_option linter.all false
set_option maxRecDepth 100000
set_option maxHeartbeats 8000000
namespace K16
open PySem PySem.Spec L2 L2H Dn K12M K16M
open PyProof.Rows hiding St
def bMenu : MS := mSet 10 (mAll oLst [.ex (mOp oPlus [.ex (mOp oPlus [.nm 9, .ex (mC (.int 1))]), .ex (mCall D__law_take [.nm 0, .ex (mC (.int 30))])]), .ex (mC (.bl true)), .ex (mC (.bl false)), .ex (mC .non), .ex (mC (.str "1")), .ex (mAll oTup [.ex (mN 8)]), .ex (mFz (mAll oLst [.ex (mN 8)])), .ex (mOp oPow [.ex (mC (.int 10)), .ex (mC (.int 59))])])
def bPick : MS := mSet 11 (mOp oIx [.nm 10, .ex (mCall D__law_take [.nm 0, .ex (mOp oLen [.nm 10])])])
def bRest : MS := mSeq (mSet 12 (mOp oPlus [.nm 6, .ex (mCall D__law_take [.nm 0, .ex (mC (.int 2))])]))
  (mSeq (mIf (mTOr (mB (mOp (oEq true) [.ex (mCall D__law_told [.nm 12, .nm 1, .nm 8]), .ex (mAll oTup [])])) (mB (mOp (oEq true) [.ex (mCall D__law_told [.nm 12, .nm 1, .ex (mOp oSub [.nm 9, .ex (mC (.int 1))])]), .ex (mAll oTup [])]))) (mRet (mC (.bl false))) (mPass))
  (mSeq (mFor (mIt itS (mAll oTup [.ex (mOp oSub [.nm 8, .ex (mC (.int 1))]), .ex (mN 9), .ex (mN 11)])) (gN 13) (mIf (mTNot (mB (mCall (D__law_same 4) [.ex (mCall D__law_told [.nm 12, .nm 1, .nm 13]), .ex (mAll oTup [.ex (mN 7), .ex (mOp oNeg [.ex (mC (.int 1))])])]))) (mRet (mC (.bl false))) (mPass)))
  (mSeq (mIf (mTNot (mB (mCall (D__law_same 4) [.ex (mCall D__law_told [.nm 12, .nm 4, .nm 8]), .ex (mAll oTup [.ex (mC (.str "inner")), .ex (mOp oNeg [.ex (mC (.int 1))])])]))) (mRet (mC (.bl false))) (mPass))
  (mIf (mTNot (mB (mCall (D__law_same 4) [.ex (mCall D__law_told [.nm 12, .nm 4, .nm 11]), .ex (mAll oTup [.ex (mC (.str "inner")), .ex (mOp oNeg [.ex (mC (.int 1))])])]))) (mRet (mC (.bl false))) (mPass)))))
theorem menu_pre (rest : MS) (a b c : Int) {low top : Int} (t1 : 0 < top) (t2 : top ≤ 61) (o1 o2 o3 o4 o5 o6 o7 w10 w11 w12 w13 : Option O) :
    ∃ a' b' c' wrong w10', below wrong top = false ∧ mSeq bMenu (mSeq bPick rest) [some (.l (Pl a b c)), o1, o2, o3, o4, o5, o6, o7, some (N low), some (N top), w10, w11, w12, w13] = rest [some (.l (Pl a' b' c')), o1, o2, o3, o4, o5, o6, o7, some (N low), some (N top), w10', some (.d wrong), w12, w13] := by
  have lp := lim_pos
  obtain ⟨r, a1, b1, c1, r0, r1, e1⟩ := e_take a b c (many := 30) (by omega) (by omega)
  obtain ⟨k, a2, b2, c2, k0, k1, e2⟩ := e_take a1 b1 c1 (many := 8) (by omega) (by omega)
  have pw : oPow [N 10, N 59] = some (N (10 ^ 59)) := rfl
  have big' : ¬ ((10 : Int) ^ 59 < top) := by
    have : (500 : Int) < 10 ^ 59 := by decide +kernel
    omega
  generalize (10 : Int) ^ 59 = BIG at *
  obtain rfl | rfl | rfl | rfl | rfl | rfl | rfl | rfl : k = 0 ∨ k = 1 ∨ k = 2 ∨ k = 3 ∨ k = 4 ∨ k = 5 ∨ k = 6 ∨ k = 7 := by omega
  · exact ⟨a2, b2, c2, .int (top + 1 + r), _, by simp [below]; omega, by simp [bMenu, bPick, e1, e2, pw, at8_0]; rfl⟩
  · exact ⟨a2, b2, c2, .bl true, _, by simp [below], by simp [bMenu, bPick, e1, e2, pw, at8_1]; rfl⟩
  · exact ⟨a2, b2, c2, .bl false, _, by simp [below], by simp [bMenu, bPick, e1, e2, pw, at8_2]; rfl⟩
  · exact ⟨a2, b2, c2, .non, _, by simp [below], by simp [bMenu, bPick, e1, e2, pw, at8_3]; rfl⟩
  · exact ⟨a2, b2, c2, .str "1", _, by simp [below], by simp [bMenu, bPick, e1, e2, pw, at8_4]; rfl⟩
  · exact ⟨a2, b2, c2, .tup [.int low], _, by simp [below], by simp [bMenu, bPick, e1, e2, pw, at8_5]; rfl⟩
  · exact ⟨a2, b2, c2, .lst [.int low], _, by simp [below], by simp [bMenu, bPick, e1, e2, pw, at8_6]; rfl⟩
  · exact ⟨a2, b2, c2, .int BIG, _, by simp [below]; omega, by simp [bMenu, bPick, e1, e2, pw, at8_7]; rfl⟩
theorem eq_t0 : oEq true [.d (.tup []), .d (.tup [])] = some (.d (.bl false)) := by rfl
theorem row_body {xs sh : List Int} {w low top : Int} {word : Str} (h : Row xs w word low top) (hsh : sh.length < 2) (a b c : Int) (o2 o3 o5 w10 w11 w12 w13 : Option O) :
    ∃ a' b' c' w10' w11' w12' w13', mSeq bMenu (mSeq bPick bRest) [some (.l (Pl a b c)), some (T xs), o2, o3, some (T sh), o5, some (N w), some (.d (.str word)), some (N low), some (N top), w10, w11, w12, w13] = .nx [some (.l (Pl a' b' c')), some (T xs), o2, o3, some (T sh), o5, some (N w), some (.d (.str word)), some (N low), some (N top), w10', w11', w12', w13'] := by
  have lp := lim_pos
  obtain ⟨a1, b1, c1, wrong, w10', hw, e1⟩ := menu_pre bRest a b c (low := low) (top := top) (by have := h.l01; have := h.t1; omega) h.t2 (some (T xs)) o2 o3 (some (T sh)) o5 (some (N w)) (some (.d (.str word))) w10 w11 w12 w13
  obtain ⟨s, a2, b2, c2, s0, s1, e2⟩ := e_take a1 b1 c1 (many := 2) (by omega) (by omega)
  have hb : w + s = w ∨ w + s = w + 1 := by omega
  have k1 := h.ok1 _ hb
  have k2 := h.ok2 _ hb
  have b1' := h.bad _ (.int (low - 1)) hb (.inr rfl)
  have b2' := h.bad _ (.int top) hb (.inl (by simp [below]))
  have b3' := h.bad _ wrong hb (.inl hw)
  have h1 := h.short _ sh (.int low) hb hsh
  have h2 := h.short _ sh wrong hb hsh
  have sm := h.same
  have si := sref_inner
  refine ⟨a2, b2, c2, w10', some (.d wrong), some (N (w + s)), some (.d wrong), ?_⟩
  rw [e1]
  simp [bRest, forL_cons, e2, k1, k2, eq_t0, b1', b2', b3', h1, h2, sm, si]
theorem rows_five {xs sh : List Int} {P S held : Int} (r1 : Row xs 1 "right" 1 S) (r2 : Row xs 3 "left" 0 P) (r3 : Row xs 5 "stage" 0 held) (r4 : Row xs 7 "left" 0 P) (r5 : Row xs 9 "right" 0 S) (hsh : sh.length < 2) (a b c : Int) (o2 o3 o5 : Option O) :
    ∃ a' b' c' w6 w7 w8 w9 w10 w11 w12 w13, forL (gT [gN 6, gN 7, gN 8, gN 9]) (mSeq bMenu (mSeq bPick bRest)) [.tup [.int 1, .str "right", .int 1, .int S], .tup [.int 3, .str "left", .int 0, .int P], .tup [.int 5, .str "stage", .int 0, .int held], .tup [.int 7, .str "left", .int 0, .int P], .tup [.int 9, .str "right", .int 0, .int S]] [some (.l (Pl a b c)), some (T xs), o2, o3, some (T sh), o5, none, none, none, none, none, none, none, none] = .nx [some (.l (Pl a' b' c')), some (T xs), o2, o3, some (T sh), o5, w6, w7, w8, w9, w10, w11, w12, w13] := by
  obtain ⟨a1, b1, c1, x1, x2, x3, x4, e1⟩ := row_body r1 hsh a b c o2 o3 o5 none none none none
  obtain ⟨a2, b2, c2, y1, y2, y3, y4, e2⟩ := row_body r2 hsh a1 b1 c1 o2 o3 o5 x1 x2 x3 x4
  obtain ⟨a3, b3, c3, z1, z2, z3, z4, e3⟩ := row_body r3 hsh a2 b2 c2 o2 o3 o5 y1 y2 y3 y4
  obtain ⟨a4, b4, c4, u1, u2, u3, u4, e4⟩ := row_body r4 hsh a3 b3 c3 o2 o3 o5 z1 z2 z3 z4
  obtain ⟨a5, b5, c5, v1, v2, v3, v4, e5⟩ := row_body r5 hsh a4 b4 c4 o2 o3 o5 u1 u2 u3 u4
  have g : ∀ (x0 x1 x2 x3 x4 x5 x6 x7 x8 x9 x10 x11 x12 x13 : Option O) (w low top : Int) (word : Str), gT [gN 6, gN 7, gN 8, gN 9] [x0, x1, x2, x3, x4, x5, x6, x7, x8, x9, x10, x11, x12, x13] (.tup [.int w, .str word, .int low, .int top]) = some [x0, x1, x2, x3, x4, x5, some (N w), some (.d (.str word)), some (N low), some (N top), x10, x11, x12, x13] := fun _ _ _ _ _ _ _ _ _ _ _ _ _ _ _ _ _ _ => rfl
  refine ⟨a5, b5, c5, some (N 9), some (.d (.str "right")), some (N 0), some (N S), v1, v2, v3, v4, ?_⟩
  generalize mSeq bMenu (mSeq bPick bRest) = body at *
  rw [forL_cons, g, forG_s, e1, forB_nx, forL_cons, g, forG_s, e2, forB_nx, forL_cons, g, forG_s, e3, forB_nx, forL_cons, g, forG_s, e4, forB_nx, forL_cons, g, forG_s, e5, forB_nx]
  rfl
theorem eq_f0 : oEq false [.d (.tup []), .d (.tup [])] = some (.d (.bl true)) := by rfl
theorem e_refusals (a0 b0 c0 : Int) {xs ls rs : List Int} {P S a b : Int} (h : Gp xs ls rs P S a b) (hs : P + S ≤ 61) : ∃ a' b' c', D__law_refusals [.l (Pl a0 b0 c0), T xs] = .ok tt [some (.l (Pl a' b' c')), some (T xs)] := by
  have lp := lim_pos
  have e1 := h.halves
  have t0 := hv0 P S a b
  have t1 := hv1 P S a b
  obtain ⟨t, x1, y1, z1, q0, q1, e2⟩ := e_take a0 b0 c0 (many := 3) (by omega) (by omega)
  have tail : ∀ (x y z : Int) (sh : List Int), sh.length < 2 → ∃ x' y' z' s w6 w7 w8 w9 w10 w11 w12 w13, (s = 0 ∨ s = 1) ∧ forL (gT [gN 6, gN 7, gN 8, gN 9]) (mSeq bMenu (mSeq bPick bRest)) [.tup [.int 1, .str "right", .int 1, .int S], .tup [.int 3, .str "left", .int 0, .int P], .tup [.int 5, .str "stage", .int 0, .int (P + S - 1)], .tup [.int 7, .str "left", .int 0, .int P], .tup [.int 9, .str "right", .int 0, .int S]] [some (.l (Pl x y z)), some (T xs), some (hvO P S a b), some (N (P + S - 1)), some (T sh), some (.d (.lst [.tup [.int 1, .str "right", .int 1, .int S], .tup [.int 3, .str "left", .int 0, .int P], .tup [.int 5, .str "stage", .int 0, .int (P + S - 1)], .tup [.int 7, .str "left", .int 0, .int P], .tup [.int 9, .str "right", .int 0, .int S]])), none, none, none, none, none, none, none, none] = .nx [some (.l (Pl x' y' z')), some (T xs), some (hvO P S a b), some (N (P + S - 1)), some (T sh), some (.d (.lst [.tup [.int 1, .str "right", .int 1, .int S], .tup [.int 3, .str "left", .int 0, .int P], .tup [.int 5, .str "stage", .int 0, .int (P + S - 1)], .tup [.int 7, .str "left", .int 0, .int P], .tup [.int 9, .str "right", .int 0, .int S]])), w6, w7, w8, w9, w10, w11, w12, w13] ∧ ∃ x'' y'' z'', D__law_take [.l (Pl x' y' z'), N 2] = .ok (N s) [some (.l (Pl x'' y'' z'')), some (N 2)] := fun x y z sh hsh => by
    obtain ⟨x', y', z', w6, w7, w8, w9, w10, w11, w12, w13, e⟩ := rows_five (row_right h hs) (row_left h hs) (row_stage h hs) (row_lbegin h hs) (row_rbegin h hs) hsh x y z (some (hvO P S a b)) (some (N (P + S - 1))) (some (.d (.lst [.tup [.int 1, .str "right", .int 1, .int S], .tup [.int 3, .str "left", .int 0, .int P], .tup [.int 5, .str "stage", .int 0, .int (P + S - 1)], .tup [.int 7, .str "left", .int 0, .int P], .tup [.int 9, .str "right", .int 0, .int S]])))
    obtain ⟨s, x2, y2, z2, s0, s1, t⟩ := e_take x' y' z' (many := 2) (by omega) (by omega)
    exact ⟨x', y', z', s, w6, w7, w8, w9, w10, w11, w12, w13, by omega, e, x2, y2, z2, t⟩
  have m11 : ∀ s : Int, (s = 0 ∨ s = 1) → cMul 11 s = true := fun s hs => mul_ok (by omega) (by omega)
  have hh := e_halves_of h
  have si := sref_inner
  by_cases q : 0 < t
  · obtain ⟨r, x2, y2, z2, r0, r1, e3⟩ := e_take x1 y1 z1 (many := 11) (by omega) (by omega)
    obtain ⟨x', y', z', s, w6, w7, w8, w9, w10, w11, w12, w13, hs2, e4, x3, y3, z3, e5⟩ := tail x2 y2 z2 [2 + r] (by simp)
    have o1 := to_halves (ys := xs) (d := .int 0) (by_ := 11 * s) (by omega) hh
    have o2 := tb_halves (ys := [2 + r]) (d := .int 0) (by_ := 11 * s) (by omega) (e_halves_short (by simp))
    have mm := m11 s hs2
    have hT : T [2 + r] = .d (.tup [.int (2 + r)]) := rfl
    rw [hT] at e4 o2
    unfold bMenu bPick bRest at e4
    refine ⟨x3, y3, z3, ?_⟩
    simp [D__law_refusals, m__law_refusals, e1, t0, t1, e2, q, e3, e4, e5, mm, o1, o2, eq_f0, si]
  · obtain ⟨x', y', z', s, w6, w7, w8, w9, w10, w11, w12, w13, hs2, e4, x3, y3, z3, e5⟩ := tail x1 y1 z1 [] (by simp)
    have o1 := to_halves (ys := xs) (d := .int 0) (by_ := 11 * s) (by omega) hh
    have o2 := tb_halves (ys := []) (d := .int 0) (by_ := 11 * s) (by omega) (e_halves_short (by simp))
    have mm := m11 s hs2
    have hT : T [] = .d (.tup []) := rfl
    rw [hT] at e4 o2
    unfold bMenu bPick bRest at e4
    refine ⟨x3, y3, z3, ?_⟩
    simp [D__law_refusals, m__law_refusals, e1, t0, t1, e2, q, e4, e5, mm, o1, o2, eq_f0, si]
theorem e_law {ns : List Int} (hns : ns.length ≤ 63) : ∃ as, D_law [.d (.scr (I ns))] = .ok tt as := by
  have lp := lim_pos
  obtain ⟨a0, b0, c0, e0⟩ := e_open ns
  obtain ⟨a1, b1, c1, xs, ls, rs, P, S, a, b, h, hs, e1⟩ := e_small a0 b0 c0
  have e2 := e_law_small h hs
  obtain ⟨a2, b2, c2, e3⟩ := e_refusals a1 b1 c1 h hs
  obtain ⟨s, a3, b3, c3, s0, s1, e4⟩ := e_take a2 b2 c2 (many := 2) (by omega) (by omega)
  have P2 := h.hv.P2
  have S2 := h.hv.S2
  obtain ⟨n, hn⟩ : ∃ n : Nat, (n : Int) = P + S - 1 := ⟨(P + S - 1).toNat, by omega⟩
  have e5 := h.halves
  have e6 := e_moments h.bd hs
  have e7 := e_walk h.bd hs
  rw [show (P + S - 1).toNat = n by omega] at e7
  have wn := wk_len P S a b n
  have tail : ∀ x y z : Int, ∃ (k : Nat) (x' y' z' : Int), k < n ∧ D__law_take [.l (Pl x y z), N (n : Int)] = .ok (N (k : Nat)) [some (.l (Pl x' y' z')), some (N (n : Int))] := fun x y z => by
    obtain ⟨r, a', b', c', r0, r1, t⟩ := e_take x y z (many := (n : Int)) (by omega) (by omega)
    obtain ⟨k, rfl⟩ := Int.eq_ofNat_of_zero_le r0
    exact ⟨k, a', b', c', by omega, t⟩
  have fin : ∀ k : Nat, k < n → D_counts_at [T xs, N (k : Int)] = .ok (.d (wp P S a b k)) [some (T xs), some (N (k : Int))] ∧ D__law_same 4 [.d (wp P S a b k), .d (wp P S a b k)] = .ok tt [some (.d (wp P S a b k)), some (.d (wp P S a b k))] ∧ (wk P S a b n)[k]? = some (wp P S a b k) := fun k hk =>
    ⟨e_counts_at h (k := k) (by omega), same_row [C P S a b k, k - C P S a b k] (by simp), wk_get hk⟩
  by_cases q : s = 0
  · subst q
    obtain ⟨a4, b4, c4, e8⟩ := e_wide a3 b3 c3
    obtain ⟨k, a5, b5, c5, k1, e9⟩ := tail a4 b4 c4
    obtain ⟨f1, f2, f3⟩ := fin k k1
    generalize wp P S a b k = v at *
    exact ⟨_, by simp [D_law, m_law, e0, e1, e2, e3, e4, e8, e5, e6, e7, wn, e9, f1, f2, f3]; rfl⟩
  · obtain ⟨k, a5, b5, c5, k1, e9⟩ := tail a3 b3 c3
    obtain ⟨f1, f2, f3⟩ := fin k k1
    generalize wp P S a b k = v at *
    exact ⟨_, by simp [D_law, m_law, e0, e1, e2, e3, e4, q, e5, e6, e7, wn, e9, f1, f2, f3]; rfl⟩
end K16
end
section
set_option Elab.async false
set_option linter.all false
set_option maxRecDepth 100000
set_option maxHeartbeats 4000000
namespace K16
open PySem PySem.Spec L2 L2H Dn
open PyProof.Rows hiding St
/-- the plain law -/
def Plain : Prop := ∀ ns : List Int, ns.length ≤ 63 → ∃ as, D_law [.d (.scr (ns.map D.int))] = .ok (.d (.bl true)) as
theorem plain : Plain := fun ns h => e_law h
theorem all_mk {l : PySem.W.OpenLaw} {w : World} {K : PySem.W.Frag} {h : Heap} {mg : Str → Option Value} {fa f1 f2 f3 f4 f6 f7 f9 f11 f12 f14 f15 f16 f17 f18 f19 f21 f22 f23 f24 f25 f26 f27 f29 f30 f31 f32 f33 f34 f35 f36 f37 f38 f39 f40 f41 f42 f43 f44 f45 f46 f47 f48 f1003 : Addr} {d6 d7 d9 d11 d12 d14 d15 d16 d17 d18 d19 d21 d22 d23 d24 d25 d26 d27 d29 d30 d31 d32 d33 d34 d35 d36 d37 d38 d39 d40 d41 d42 d43 d44 d45 d46 d47 d48 d1003 : FuncData} (plain : Plain) (X : K.In h) (G : h.Ns mainGlobals mg) (hfa : mg "law" = some (.ref fa))
    (aC1 : PySem.W.nsIn K mainGlobals "StoodError" = some (some (.ref f1)))
    (aC2 : PySem.W.nsIn K mainGlobals "CodeError" = some (some (.ref f2)))
    (aC3 : PySem.W.nsIn K mainGlobals "NotUsable" = some (some (.ref f3)))
    (aC4 : PySem.W.nsIn K mainGlobals "TooMany" = some (some (.ref f4)))
    (a6 : PySem.W.nsIn K mainGlobals "is_integer" = some (some (.ref f6)))
    (F6 : Fun K "is_integer" "is_integer" s_is_integer f6 d6)
    (a7 : PySem.W.nsIn K mainGlobals "is_number" = some (some (.ref f7)))
    (F7 : Fun K "is_number" "is_number" s_is_number f7 d7)
    (a9 : PySem.W.nsIn K mainGlobals "c_product" = some (some (.ref f9)))
    (F9 : Fun K "c_product" "c_product" s_c_product f9 d9)
    (a11 : PySem.W.nsIn K mainGlobals "cuts_of" = some (some (.ref f11)))
    (F11 : Fun K "cuts_of" "cuts_of" s_cuts_of f11 d11)
    (a12 : PySem.W.nsIn K mainGlobals "cut_gap" = some (some (.ref f12)))
    (F12 : Fun K "cut_gap" "cut_gap" s_cut_gap f12 d12)
    (a14 : PySem.W.nsIn K mainGlobals "d_is_below" = some (some (.ref f14)))
    (F14 : Fun K "d_is_below" "d_is_below" s_d_is_below f14 d14)
    (a15 : PySem.W.nsIn K mainGlobals "d_product" = some (some (.ref f15)))
    (F15 : Fun K "d_product" "d_product" s_d_product f15 d15)
    (a16 : PySem.W.nsIn K mainGlobals "d_split" = some (some (.ref f16)))
    (F16 : Fun K "d_split" "d_split" s_d_split f16 d16)
    (a17 : PySem.W.nsIn K mainGlobals "d_mesh_left" = some (some (.ref f17)))
    (F17 : Fun K "d_mesh_left" "d_mesh_left" s_d_mesh_left f17 d17)
    (a18 : PySem.W.nsIn K mainGlobals "d_mesh_rights" = some (some (.ref f18)))
    (F18 : Fun K "d_mesh_rights" "d_mesh_rights" s_d_mesh_rights f18 d18)
    (a19 : PySem.W.nsIn K mainGlobals "d_mesh_counts" = some (some (.ref f19)))
    (F19 : Fun K "d_mesh_counts" "d_mesh_counts" s_d_mesh_counts f19 d19)
    (a21 : PySem.W.nsIn K mainGlobals "d_mesh_halves" = some (some (.ref f21)))
    (F21 : Fun K "d_mesh_halves" "d_mesh_halves" s_d_mesh_halves f21 d21)
    (a22 : PySem.W.nsIn K mainGlobals "halves_of" = some (some (.ref f22)))
    (F22 : Fun K "halves_of" "halves_of" s_halves_of f22 d22)
    (a23 : PySem.W.nsIn K mainGlobals "right_comes" = some (some (.ref f23)))
    (F23 : Fun K "right_comes" "right_comes" s_right_comes f23 d23)
    (a24 : PySem.W.nsIn K mainGlobals "rights_ahead" = some (some (.ref f24)))
    (F24 : Fun K "rights_ahead" "rights_ahead" s_rights_ahead f24 d24)
    (a25 : PySem.W.nsIn K mainGlobals "counts_at" = some (some (.ref f25)))
    (F25 : Fun K "counts_at" "counts_at" s_counts_at f25 d25)
    (a26 : PySem.W.nsIn K mainGlobals "left_begins" = some (some (.ref f26)))
    (F26 : Fun K "left_begins" "left_begins" s_left_begins f26 d26)
    (a27 : PySem.W.nsIn K mainGlobals "right_begins" = some (some (.ref f27)))
    (F27 : Fun K "right_begins" "right_begins" s_right_begins f27 d27)
    (a29 : PySem.W.nsIn K mainGlobals "_law_open" = some (some (.ref f29)))
    (F29 : Fun K "_law_open" "_law_open" s__law_open f29 d29)
    (a30 : PySem.W.nsIn K mainGlobals "_law_take" = some (some (.ref f30)))
    (F30 : Fun K "_law_take" "_law_take" s__law_take f30 d30)
    (a31 : PySem.W.nsIn K mainGlobals "_law_number" = some (some (.ref f31)))
    (F31 : Fun K "_law_number" "_law_number" s__law_number f31 d31)
    (a32 : PySem.W.nsIn K mainGlobals "_law_same" = some (some (.ref f32)))
    (F32 : Fun K "_law_same" "_law_same" s__law_same f32 d32)
    (a33 : PySem.W.nsIn K mainGlobals "_law_product" = some (some (.ref f33)))
    (F33 : Fun K "_law_product" "_law_product" s__law_product f33 d33)
    (a34 : PySem.W.nsIn K mainGlobals "_law_halves" = some (some (.ref f34)))
    (F34 : Fun K "_law_halves" "_law_halves" s__law_halves f34 d34)
    (a35 : PySem.W.nsIn K mainGlobals "_law_small_sizes" = some (some (.ref f35)))
    (F35 : Fun K "_law_small_sizes" "_law_small_sizes" s__law_small_sizes f35 d35)
    (a36 : PySem.W.nsIn K mainGlobals "_law_wide_sizes" = some (some (.ref f36)))
    (F36 : Fun K "_law_wide_sizes" "_law_wide_sizes" s__law_wide_sizes f36 d36)
    (a37 : PySem.W.nsIn K mainGlobals "_law_moments" = some (some (.ref f37)))
    (F37 : Fun K "_law_moments" "_law_moments" s__law_moments f37 d37)
    (a38 : PySem.W.nsIn K mainGlobals "_law_walk" = some (some (.ref f38)))
    (F38 : Fun K "_law_walk" "_law_walk" s__law_walk f38 d38)
    (a39 : PySem.W.nsIn K mainGlobals "_law_small" = some (some (.ref f39)))
    (F39 : Fun K "_law_small" "_law_small" s__law_small f39 d39)
    (a40 : PySem.W.nsIn K mainGlobals "_law_come" = some (some (.ref f40)))
    (F40 : Fun K "_law_come" "_law_come" s__law_come f40 d40)
    (a41 : PySem.W.nsIn K mainGlobals "_law_stands" = some (some (.ref f41)))
    (F41 : Fun K "_law_stands" "_law_stands" s__law_stands f41 d41)
    (a42 : PySem.W.nsIn K mainGlobals "_law_whole" = some (some (.ref f42)))
    (F42 : Fun K "_law_whole" "_law_whole" s__law_whole f42 d42)
    (a43 : PySem.W.nsIn K mainGlobals "_law_left" = some (some (.ref f43)))
    (F43 : Fun K "_law_left" "_law_left" s__law_left f43 d43)
    (a44 : PySem.W.nsIn K mainGlobals "_law_right" = some (some (.ref f44)))
    (F44 : Fun K "_law_right" "_law_right" s__law_right f44 d44)
    (a45 : PySem.W.nsIn K mainGlobals "_law_wide" = some (some (.ref f45)))
    (F45 : Fun K "_law_wide" "_law_wide" s__law_wide f45 d45)
    (a46 : PySem.W.nsIn K mainGlobals "_law_told" = some (some (.ref f46)))
    (F46 : Fun K "_law_told" "_law_told" s__law_told f46 d46)
    (a47 : PySem.W.nsIn K mainGlobals "_law_refusals" = some (some (.ref f47)))
    (F47 : Fun K "_law_refusals" "_law_refusals" s__law_refusals f47 d47)
    (a48 : PySem.W.nsIn K mainGlobals "law" = some (some (.ref f48)))
    (F48 : Fun K "law" "law" s_law f48 d48)
    (i3 : PySem.W.findIn K (.ref f3) "__init__" = some (some (.ref f1003)))
    (F1003 : Fun K "__init__" "NotUsable.__init__" sI_NotUsable f1003 d1003)
    (t1003 : PySem.W.typeIn K (.ref f1003) = some (.type "function"))
    (o3 : OexC K f3)
    (q3 : XfC K f3)
    (z3 : XiC K f3)
    (n3_word : PySem.W.findIn K (.ref f3) "word" = some none)
    (n3_at : PySem.W.findIn K (.ref f3) "at" = some none)
    (e3_StoodError : PySem.W.exmOne K (.ref f3) (.ref f1) = some true)
    (k3_CodeError : PySem.W.kitOne K (.ref f3) (.ref f2) = some true)
    (k3_NotUsable : PySem.W.kitOne K (.ref f3) (.ref f3) = some true)
    (k3_TooMany : PySem.W.kitOne K (.ref f3) (.ref f4) = some false)
    (z_abs : PySem.W.nsIn K mainGlobals "abs" = some none)
    (z_all : PySem.W.nsIn K mainGlobals "all" = some none)
    (z_bool : PySem.W.nsIn K mainGlobals "bool" = some none)
    (z_int : PySem.W.nsIn K mainGlobals "int" = some none)
    (z_isinstance : PySem.W.nsIn K mainGlobals "isinstance" = some none)
    (z_len : PySem.W.nsIn K mainGlobals "len" = some none)
    (z_list : PySem.W.nsIn K mainGlobals "list" = some none)
    (z_max : PySem.W.nsIn K mainGlobals "max" = some none)
    (z_min : PySem.W.nsIn K mainGlobals "min" = some none)
    (z_range : PySem.W.nsIn K mainGlobals "range" = some none)
    (z_reversed : PySem.W.nsIn K mainGlobals "reversed" = some none)
    (z_str : PySem.W.nsIn K mainGlobals "str" = some none)
    (z_tuple : PySem.W.nsIn K mainGlobals "tuple" = some none)
    : ∃ fd : FuncData, (∀ (s : Shared) (v : Value), BindsTo s fd ⟨[v], []⟩ [("_law_script", v)]) ∧ ∀ base : Heap, K.In base → base.Ns mainGlobals mg → FnOk l.prog w K mg base (L2N.CX l.prog w) 11 fa fd ["_law_script"] (spLaw K) := by
  have e := hfa.symm.trans (PySem.W.mg_of X G a48)
  cases e
  let ad : Nat → Addr := fun i => if i = 1 then f1 else if i = 2 then f2 else if i = 3 then f3 else if i = 4 then f4 else if i = 6 then f6 else if i = 7 then f7 else if i = 9 then f9 else if i = 11 then f11 else if i = 12 then f12 else if i = 14 then f14 else if i = 15 then f15 else if i = 16 then f16 else if i = 17 then f17 else if i = 18 then f18 else if i = 19 then f19 else if i = 21 then f21 else if i = 22 then f22 else if i = 23 then f23 else if i = 24 then f24 else if i = 25 then f25 else if i = 26 then f26 else if i = 27 then f27 else if i = 29 then f29 else if i = 30 then f30 else if i = 31 then f31 else if i = 32 then f32 else if i = 33 then f33 else if i = 34 then f34 else if i = 35 then f35 else if i = 36 then f36 else if i = 37 then f37 else if i = 38 then f38 else if i = 39 then f39 else if i = 40 then f40 else if i = 41 then f41 else if i = 42 then f42 else if i = 43 then f43 else if i = 44 then f44 else if i = 45 then f45 else if i = 46 then f46 else if i = 47 then f47 else if i = 48 then fa else if i = 1003 then f1003 else 0
  let fdn : Nat → FuncData := fun i => if i = 6 then d6 else if i = 7 then d7 else if i = 9 then d9 else if i = 11 then d11 else if i = 12 then d12 else if i = 14 then d14 else if i = 15 then d15 else if i = 16 then d16 else if i = 17 then d17 else if i = 18 then d18 else if i = 19 then d19 else if i = 21 then d21 else if i = 22 then d22 else if i = 23 then d23 else if i = 24 then d24 else if i = 25 then d25 else if i = 26 then d26 else if i = 27 then d27 else if i = 29 then d29 else if i = 30 then d30 else if i = 31 then d31 else if i = 32 then d32 else if i = 33 then d33 else if i = 34 then d34 else if i = 35 then d35 else if i = 36 then d36 else if i = 37 then d37 else if i = 38 then d38 else if i = 39 then d39 else if i = 40 then d40 else if i = 41 then d41 else if i = 42 then d42 else if i = 43 then d43 else if i = 44 then d44 else if i = 45 then d45 else if i = 46 then d46 else if i = 47 then d47 else if i = 48 then d48 else if i = 1003 then d1003 else d48
  have T : Txt K mg ad fdn := {
    mC_StoodError := PySem.W.mg_of X G aC1,
    mC_CodeError := PySem.W.mg_of X G aC2,
    mC_NotUsable := PySem.W.mg_of X G aC3,
    mC_TooMany := PySem.W.mg_of X G aC4,
    F_is_integer := F6,
    m_is_integer := PySem.W.mg_of X G a6,
    b_is_integer := F6.binds (ps := ["thing"]) fun _ _ _ _ _ _ us hl => match us, hl with | [_], _ => rfl,
    F_is_number := F7,
    m_is_number := PySem.W.mg_of X G a7,
    b_is_number := F7.binds (ps := ["thing"]) fun _ _ _ _ _ _ us hl => match us, hl with | [_], _ => rfl,
    F_c_product := F9,
    m_c_product := PySem.W.mg_of X G a9,
    b_c_product := F9.binds (ps := ["numbers"]) fun _ _ _ _ _ _ us hl => match us, hl with | [_], _ => rfl,
    F_cuts_of := F11,
    m_cuts_of := PySem.W.mg_of X G a11,
    b_cuts_of := F11.binds (ps := ["sizes"]) fun _ _ _ _ _ _ us hl => match us, hl with | [_], _ => rfl,
    F_cut_gap := F12,
    m_cut_gap := PySem.W.mg_of X G a12,
    b_cut_gap := F12.binds (ps := ["sizes"]) fun _ _ _ _ _ _ us hl => match us, hl with | [_], _ => rfl,
    F_d_is_below := F14,
    m_d_is_below := PySem.W.mg_of X G a14,
    b_d_is_below := F14.binds (ps := ["thing", "limit"]) fun _ _ _ _ _ _ us hl => match us, hl with | [_, _], _ => rfl,
    F_d_product := F15,
    m_d_product := PySem.W.mg_of X G a15,
    b_d_product := F15.binds (ps := ["sizes"]) fun _ _ _ _ _ _ us hl => match us, hl with | [_], _ => rfl,
    F_d_split := F16,
    m_d_split := PySem.W.mg_of X G a16,
    b_d_split := F16.binds (ps := ["inner"]) fun _ _ _ _ _ _ us hl => match us, hl with | [_], _ => rfl,
    F_d_mesh_left := F17,
    m_d_mesh_left := PySem.W.mg_of X G a17,
    b_d_mesh_left := F17.binds (ps := ["halves", "right"]) fun _ _ _ _ _ _ us hl => match us, hl with | [_, _], _ => rfl,
    F_d_mesh_rights := F18,
    m_d_mesh_rights := PySem.W.mg_of X G a18,
    b_d_mesh_rights := F18.binds (ps := ["halves", "left"]) fun _ _ _ _ _ _ us hl => match us, hl with | [_, _], _ => rfl,
    F_d_mesh_counts := F19,
    m_d_mesh_counts := PySem.W.mg_of X G a19,
    b_d_mesh_counts := F19.binds (ps := ["halves", "stage"]) fun _ _ _ _ _ _ us hl => match us, hl with | [_, _], _ => rfl,
    F_d_mesh_halves := F21,
    m_d_mesh_halves := PySem.W.mg_of X G a21,
    b_d_mesh_halves := F21.binds (ps := ["inner"]) fun _ _ _ _ _ _ us hl => match us, hl with | [_], _ => rfl,
    F_halves_of := F22,
    m_halves_of := PySem.W.mg_of X G a22,
    b_halves_of := F22.binds (ps := ["inner"]) fun _ _ _ _ _ _ us hl => match us, hl with | [_], _ => rfl,
    kw_halves_of := kwb_of F22 (ps := ["inner"]) fun _ _ _ _ _ _ us hl => match us, hl with | [_], _ => rfl,
    F_right_comes := F23,
    m_right_comes := PySem.W.mg_of X G a23,
    b_right_comes := F23.binds (ps := ["inner", "right"]) fun _ _ _ _ _ _ us hl => match us, hl with | [_, _], _ => rfl,
    kp_right_comes_10 := kwp_of F23 (ps := ["inner", "right"]) (ns := ["right", "inner"]) (π := [1, 0]) (fun _ _ _ _ _ _ us hl => match us, hl with | [_, _], _ => rfl) rfl rfl,
    kw_right_comes := kwb_of F23 (ps := ["inner", "right"]) fun _ _ _ _ _ _ us hl => match us, hl with | [_, _], _ => rfl,
    F_rights_ahead := F24,
    m_rights_ahead := PySem.W.mg_of X G a24,
    b_rights_ahead := F24.binds (ps := ["inner", "left"]) fun _ _ _ _ _ _ us hl => match us, hl with | [_, _], _ => rfl,
    kp_rights_ahead_10 := kwp_of F24 (ps := ["inner", "left"]) (ns := ["left", "inner"]) (π := [1, 0]) (fun _ _ _ _ _ _ us hl => match us, hl with | [_, _], _ => rfl) rfl rfl,
    kw_rights_ahead := kwb_of F24 (ps := ["inner", "left"]) fun _ _ _ _ _ _ us hl => match us, hl with | [_, _], _ => rfl,
    F_counts_at := F25,
    m_counts_at := PySem.W.mg_of X G a25,
    b_counts_at := F25.binds (ps := ["inner", "stage"]) fun _ _ _ _ _ _ us hl => match us, hl with | [_, _], _ => rfl,
    kp_counts_at_10 := kwp_of F25 (ps := ["inner", "stage"]) (ns := ["stage", "inner"]) (π := [1, 0]) (fun _ _ _ _ _ _ us hl => match us, hl with | [_, _], _ => rfl) rfl rfl,
    kw_counts_at := kwb_of F25 (ps := ["inner", "stage"]) fun _ _ _ _ _ _ us hl => match us, hl with | [_, _], _ => rfl,
    F_left_begins := F26,
    m_left_begins := PySem.W.mg_of X G a26,
    b_left_begins := F26.binds (ps := ["inner", "left"]) fun _ _ _ _ _ _ us hl => match us, hl with | [_, _], _ => rfl,
    kp_left_begins_10 := kwp_of F26 (ps := ["inner", "left"]) (ns := ["left", "inner"]) (π := [1, 0]) (fun _ _ _ _ _ _ us hl => match us, hl with | [_, _], _ => rfl) rfl rfl,
    kw_left_begins := kwb_of F26 (ps := ["inner", "left"]) fun _ _ _ _ _ _ us hl => match us, hl with | [_, _], _ => rfl,
    F_right_begins := F27,
    m_right_begins := PySem.W.mg_of X G a27,
    b_right_begins := F27.binds (ps := ["inner", "right"]) fun _ _ _ _ _ _ us hl => match us, hl with | [_, _], _ => rfl,
    kp_right_begins_10 := kwp_of F27 (ps := ["inner", "right"]) (ns := ["right", "inner"]) (π := [1, 0]) (fun _ _ _ _ _ _ us hl => match us, hl with | [_, _], _ => rfl) rfl rfl,
    kw_right_begins := kwb_of F27 (ps := ["inner", "right"]) fun _ _ _ _ _ _ us hl => match us, hl with | [_, _], _ => rfl,
    F__law_open := F29,
    m__law_open := PySem.W.mg_of X G a29,
    b__law_open := F29.binds (ps := ["_law_script"]) fun _ _ _ _ _ _ us hl => match us, hl with | [_], _ => rfl,
    F__law_take := F30,
    m__law_take := PySem.W.mg_of X G a30,
    b__law_take := F30.binds (ps := ["_law_pool", "_law_many"]) fun _ _ _ _ _ _ us hl => match us, hl with | [_, _], _ => rfl,
    F__law_number := F31,
    m__law_number := PySem.W.mg_of X G a31,
    b__law_number := F31.binds (ps := ["_law_pool", "_law_top"]) fun _ _ _ _ _ _ us hl => match us, hl with | [_, _], _ => rfl,
    F__law_same := F32,
    m__law_same := PySem.W.mg_of X G a32,
    b__law_same := F32.binds (ps := ["_law_got", "_law_due"]) fun _ _ _ _ _ _ us hl => match us, hl with | [_, _], _ => rfl,
    F__law_product := F33,
    m__law_product := PySem.W.mg_of X G a33,
    b__law_product := F33.binds (ps := ["_law_sizes"]) fun _ _ _ _ _ _ us hl => match us, hl with | [_], _ => rfl,
    F__law_halves := F34,
    m__law_halves := PySem.W.mg_of X G a34,
    b__law_halves := F34.binds (ps := ["_law_sizes"]) fun _ _ _ _ _ _ us hl => match us, hl with | [_], _ => rfl,
    F__law_small_sizes := F35,
    m__law_small_sizes := PySem.W.mg_of X G a35,
    b__law_small_sizes := F35.binds (ps := ["_law_pool"]) fun _ _ _ _ _ _ us hl => match us, hl with | [_], _ => rfl,
    F__law_wide_sizes := F36,
    m__law_wide_sizes := PySem.W.mg_of X G a36,
    b__law_wide_sizes := F36.binds (ps := ["_law_pool"]) fun _ _ _ _ _ _ us hl => match us, hl with | [_], _ => rfl,
    F__law_moments := F37,
    m__law_moments := PySem.W.mg_of X G a37,
    b__law_moments := F37.binds (ps := ["_law_halves_here"]) fun _ _ _ _ _ _ us hl => match us, hl with | [_], _ => rfl,
    F__law_walk := F38,
    m__law_walk := PySem.W.mg_of X G a38,
    b__law_walk := F38.binds (ps := ["_law_halves_here", "_law_moments_here"]) fun _ _ _ _ _ _ us hl => match us, hl with | [_, _], _ => rfl,
    F__law_small := F39,
    m__law_small := PySem.W.mg_of X G a39,
    b__law_small := F39.binds (ps := ["_law_sizes"]) fun _ _ _ _ _ _ us hl => match us, hl with | [_], _ => rfl,
    F__law_come := F40,
    m__law_come := PySem.W.mg_of X G a40,
    b__law_come := F40.binds (ps := ["_law_halves_here", "_law_left_here", "_law_right_here"]) fun _ _ _ _ _ _ us hl => match us, hl with | [_, _, _], _ => rfl,
    F__law_stands := F41,
    m__law_stands := PySem.W.mg_of X G a41,
    b__law_stands := F41.binds (ps := ["_law_halves_here", "_law_left_here", "_law_right_here"]) fun _ _ _ _ _ _ us hl => match us, hl with | [_, _, _], _ => rfl,
    F__law_whole := F42,
    m__law_whole := PySem.W.mg_of X G a42,
    b__law_whole := F42.binds (ps := ["_law_got", "_law_top"]) fun _ _ _ _ _ _ us hl => match us, hl with | [_, _], _ => rfl,
    F__law_left := F43,
    m__law_left := PySem.W.mg_of X G a43,
    b__law_left := F43.binds (ps := ["_law_sizes", "_law_halves_here", "_law_left_here"]) fun _ _ _ _ _ _ us hl => match us, hl with | [_, _, _], _ => rfl,
    F__law_right := F44,
    m__law_right := PySem.W.mg_of X G a44,
    b__law_right := F44.binds (ps := ["_law_sizes", "_law_halves_here", "_law_right_here"]) fun _ _ _ _ _ _ us hl => match us, hl with | [_, _, _], _ => rfl,
    F__law_wide := F45,
    m__law_wide := PySem.W.mg_of X G a45,
    b__law_wide := F45.binds (ps := ["_law_pool"]) fun _ _ _ _ _ _ us hl => match us, hl with | [_], _ => rfl,
    F__law_told := F46,
    m__law_told := PySem.W.mg_of X G a46,
    b__law_told := F46.binds (ps := ["_law_which", "_law_sizes", "_law_one"]) fun _ _ _ _ _ _ us hl => match us, hl with | [_, _, _], _ => rfl,
    F__law_refusals := F47,
    m__law_refusals := PySem.W.mg_of X G a47,
    b__law_refusals := F47.binds (ps := ["_law_pool", "_law_sizes"]) fun _ _ _ _ _ _ us hl => match us, hl with | [_, _], _ => rfl,
    F_law := F48,
    m_law := PySem.W.mg_of X G a48,
    b_law := F48.binds (ps := ["_law_script"]) fun _ _ _ _ _ _ us hl => match us, hl with | [_], _ => rfl,
    i_NotUsable := i3,
    FI_NotUsable := F1003,
    bI_NotUsable := F1003.binds (ps := ["self", "word", "at"]) fun _ _ _ _ _ _ us hl => match us, hl with | [_, _, _], _ => rfl,
    t_NotUsable := t1003,
    o_NotUsable := o3,
    q_NotUsable := q3,
    z_NotUsable := z3,
    n_NotUsable_word := n3_word,
    n_NotUsable_at := n3_at,
    e_NotUsable_StoodError := e3_StoodError,
    k_NotUsable_CodeError := k3_CodeError,
    k_NotUsable_NotUsable := k3_NotUsable,
    k_NotUsable_TooMany := k3_TooMany,
    b_abs := PySem.W.mg_none_of X G z_abs,
    b_all := PySem.W.mg_none_of X G z_all,
    b_bool := PySem.W.mg_none_of X G z_bool,
    b_int := PySem.W.mg_none_of X G z_int,
    b_isinstance := PySem.W.mg_none_of X G z_isinstance,
    b_len := PySem.W.mg_none_of X G z_len,
    b_list := PySem.W.mg_none_of X G z_list,
    b_max := PySem.W.mg_none_of X G z_max,
    b_min := PySem.W.mg_none_of X G z_min,
    b_range := PySem.W.mg_none_of X G z_range,
    b_reversed := PySem.W.mg_none_of X G z_reversed,
    b_str := PySem.W.mg_none_of X G z_str,
    b_tuple := PySem.W.mg_none_of X G z_tuple }
  have bl : Binds K d48 ["_law_script"] [] := T.b_law
  obtain ⟨oc, od, kV, doc, pm, an, cdv, ct, osl, rfl, lk, hcd⟩ := F48.ex
  exact ⟨_, fun s v => .of_eq rfl, fun base _ _ => (ok_law T).imp (law_imp plain)⟩
end K16
open PySem PySem.W PyProof.Rows
set_option maxRecDepth 100000 in
set_option maxHeartbeats 0 in
theorem PySem.Challenge.cw_stoodthen_k16_whole_mesh_of_counts_holds : PySem.Challenge.rw_stoodthen_k16_whole_mesh_of_counts.Holds := by
  w_on; o_law; k_head; (case hw => w_witness2)
  k_fill
  refine L2.walk_of (l := PySem.Challenge.rw_stoodthen_k16_whole_mesh_of_counts) (n := 63) (k := 11) (x := "_law_script") (CX := fun w => L2N.CX PySem.Challenge.rw_stoodthen_k16_whole_mesh_of_counts.prog w) (sp := fun w => Dn.spLaw _) rfl (by decide) rfl ⟨rfl, by decide, by decide⟩ (fun w h Y => PySem.W.kIn_of Y) ?F (fun _ _ a ns hl _ hS => ⟨a, ns, rfl, hS, hl, fun _ => rfl⟩) (fun _ _ _ _ _ z => Dn.cxN_no z)
  case F =>
    intro w mg fa h KX G hmg
    refine' K16.all_mk K16.plain KX G hmg ?aC1 ?aC2 ?aC3 ?aC4 ?a6 ?F6 ?a7 ?F7 ?a9 ?F9 ?a11 ?F11 ?a12 ?F12 ?a14 ?F14 ?a15 ?F15 ?a16 ?F16 ?a17 ?F17 ?a18 ?F18 ?a19 ?F19 ?a21 ?F21 ?a22 ?F22 ?a23 ?F23 ?a24 ?F24 ?a25 ?F25 ?a26 ?F26 ?a27 ?F27 ?a29 ?F29 ?a30 ?F30 ?a31 ?F31 ?a32 ?F32 ?a33 ?F33 ?a34 ?F34 ?a35 ?F35 ?a36 ?F36 ?a37 ?F37 ?a38 ?F38 ?a39 ?F39 ?a40 ?F40 ?a41 ?F41 ?a42 ?F42 ?a43 ?F43 ?a44 ?F44 ?a45 ?F45 ?a46 ?F46 ?a47 ?F47 ?a48 ?F48 ?i3 ?F1003 ?t1003 ?o3 ?q3 ?z3 ?n3_word ?n3_at ?e3_StoodError ?k3_CodeError ?k3_NotUsable ?k3_TooMany ?z_abs ?z_all ?z_bool ?z_int ?z_isinstance ?z_len ?z_list ?z_max ?z_min ?z_range ?z_reversed ?z_str ?z_tuple
    case aC1 => k_is
    case aC2 => k_is
    case aC3 => k_is
    case aC4 => k_is
    case a6 => k_is
    case F6 => (refine' L2.fun_mk ?l ?c ?k; (case l => k_is); (case c => k_is); (case k => k_is))
    case a7 => k_is
    case F7 => (refine' L2.fun_mk ?l ?c ?k; (case l => k_is); (case c => k_is); (case k => k_is))
    case a9 => k_is
    case F9 => (refine' L2.fun_mk ?l ?c ?k; (case l => k_is); (case c => k_is); (case k => k_is))
    case a11 => k_is
    case F11 => (refine' L2.fun_mk ?l ?c ?k; (case l => k_is); (case c => k_is); (case k => k_is))
    case a12 => k_is
    case F12 => (refine' L2.fun_mk ?l ?c ?k; (case l => k_is); (case c => k_is); (case k => k_is))
    case a14 => k_is
    case F14 => (refine' L2.fun_mk ?l ?c ?k; (case l => k_is); (case c => k_is); (case k => k_is))
    case a15 => k_is
    case F15 => (refine' L2.fun_mk ?l ?c ?k; (case l => k_is); (case c => k_is); (case k => k_is))
    case a16 => k_is
    case F16 => (refine' L2.fun_mk ?l ?c ?k; (case l => k_is); (case c => k_is); (case k => k_is))
    case a17 => k_is
    case F17 => (refine' L2.fun_mk ?l ?c ?k; (case l => k_is); (case c => k_is); (case k => k_is))
    case a18 => k_is
    case F18 => (refine' L2.fun_mk ?l ?c ?k; (case l => k_is); (case c => k_is); (case k => k_is))
    case a19 => k_is
    case F19 => (refine' L2.fun_mk ?l ?c ?k; (case l => k_is); (case c => k_is); (case k => k_is))
    case a21 => k_is
    case F21 => (refine' L2.fun_mk ?l ?c ?k; (case l => k_is); (case c => k_is); (case k => k_is))
    case a22 => k_is
    case F22 => (refine' L2.fun_mk ?l ?c ?k; (case l => k_is); (case c => k_is); (case k => k_is))
    case a23 => k_is
    case F23 => (refine' L2.fun_mk ?l ?c ?k; (case l => k_is); (case c => k_is); (case k => k_is))
    case a24 => k_is
    case F24 => (refine' L2.fun_mk ?l ?c ?k; (case l => k_is); (case c => k_is); (case k => k_is))
    case a25 => k_is
    case F25 => (refine' L2.fun_mk ?l ?c ?k; (case l => k_is); (case c => k_is); (case k => k_is))
    case a26 => k_is
    case F26 => (refine' L2.fun_mk ?l ?c ?k; (case l => k_is); (case c => k_is); (case k => k_is))
    case a27 => k_is
    case F27 => (refine' L2.fun_mk ?l ?c ?k; (case l => k_is); (case c => k_is); (case k => k_is))
    case a29 => k_is
    case F29 => (refine' L2.fun_mk ?l ?c ?k; (case l => k_is); (case c => k_is); (case k => k_is))
    case a30 => k_is
    case F30 => (refine' L2.fun_mk ?l ?c ?k; (case l => k_is); (case c => k_is); (case k => k_is))
    case a31 => k_is
    case F31 => (refine' L2.fun_mk ?l ?c ?k; (case l => k_is); (case c => k_is); (case k => k_is))
    case a32 => k_is
    case F32 => (refine' L2.fun_mk ?l ?c ?k; (case l => k_is); (case c => k_is); (case k => k_is))
    case a33 => k_is
    case F33 => (refine' L2.fun_mk ?l ?c ?k; (case l => k_is); (case c => k_is); (case k => k_is))
    case a34 => k_is
    case F34 => (refine' L2.fun_mk ?l ?c ?k; (case l => k_is); (case c => k_is); (case k => k_is))
    case a35 => k_is
    case F35 => (refine' L2.fun_mk ?l ?c ?k; (case l => k_is); (case c => k_is); (case k => k_is))
    case a36 => k_is
    case F36 => (refine' L2.fun_mk ?l ?c ?k; (case l => k_is); (case c => k_is); (case k => k_is))
    case a37 => k_is
    case F37 => (refine' L2.fun_mk ?l ?c ?k; (case l => k_is); (case c => k_is); (case k => k_is))
    case a38 => k_is
    case F38 => (refine' L2.fun_mk ?l ?c ?k; (case l => k_is); (case c => k_is); (case k => k_is))
    case a39 => k_is
    case F39 => (refine' L2.fun_mk ?l ?c ?k; (case l => k_is); (case c => k_is); (case k => k_is))
    case a40 => k_is
    case F40 => (refine' L2.fun_mk ?l ?c ?k; (case l => k_is); (case c => k_is); (case k => k_is))
    case a41 => k_is
    case F41 => (refine' L2.fun_mk ?l ?c ?k; (case l => k_is); (case c => k_is); (case k => k_is))
    case a42 => k_is
    case F42 => (refine' L2.fun_mk ?l ?c ?k; (case l => k_is); (case c => k_is); (case k => k_is))
    case a43 => k_is
    case F43 => (refine' L2.fun_mk ?l ?c ?k; (case l => k_is); (case c => k_is); (case k => k_is))
    case a44 => k_is
    case F44 => (refine' L2.fun_mk ?l ?c ?k; (case l => k_is); (case c => k_is); (case k => k_is))
    case a45 => k_is
    case F45 => (refine' L2.fun_mk ?l ?c ?k; (case l => k_is); (case c => k_is); (case k => k_is))
    case a46 => k_is
    case F46 => (refine' L2.fun_mk ?l ?c ?k; (case l => k_is); (case c => k_is); (case k => k_is))
    case a47 => k_is
    case F47 => (refine' L2.fun_mk ?l ?c ?k; (case l => k_is); (case c => k_is); (case k => k_is))
    case a48 => k_is
    case F48 => (refine' L2.fun_mk ?l ?c ?k; (case l => k_is); (case c => k_is); (case k => k_is))
    case i3 => k_is
    case F1003 => (refine' L2.fun_mk ?l ?c ?k; (case l => k_is); (case c => k_is); (case k => k_is))
    case t1003 => k_is
    case o3 => (refine' Dn.oexC_of ?l ?x ?y ?z ?u; (case l => first | k_is | kernel_rfl); (case x => k_is); (case y => k_is); (case z => k_is); (case u => k_is))
    case q3 => (refine' ⟨?_, ?_, ?_, ?_⟩ <;> k_is)
    case z3 => (refine' ⟨?_, ?_, ?_, ?_, ?_, ?_, ?_, ?_⟩ <;> first | k_is | kernel_rfl)
    case n3_word => k_is
    case n3_at => k_is
    case e3_StoodError => first | k_is | kernel_rfl
    case k3_CodeError => first | k_is | kernel_rfl
    case k3_NotUsable => first | k_is | kernel_rfl
    case k3_TooMany => first | k_is | kernel_rfl
    case z_abs => k_is
    case z_all => k_is
    case z_bool => k_is
    case z_int => k_is
    case z_isinstance => k_is
    case z_len => k_is
    case z_list => k_is
    case z_max => k_is
    case z_min => k_is
    case z_range => k_is
    case z_reversed => k_is
    case z_str => k_is
    case z_tuple => k_is
end
