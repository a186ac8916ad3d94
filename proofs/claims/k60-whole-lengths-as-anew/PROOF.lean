import PyProof.Rows.All
import Wide.All
import OpenK.AllK
import Wide.FinOn
import HandS.ForMost
import HandS.Evl
import HandS.TupAny
import HandS.TupLe
import HandS.Star
import HandS.Style
import HandS.Conv
import HandS.IsInst
import HandS.Text
import HandS.FStr
import HandS.Zip
import HandS.Deep
import HandS.Remove
import HandS.Steps
import HandS.NoneIn
import KE.GoesMore
import HandS.Defaults
import HandS.MakeKwOnly
import KE.SortData
import KE.KUnpackStar
import HandS.Sort
import PyProof.SumWalkG
import HandS.StrSplit
import PyProof.Rows.NestShow
import HandS.TryOnly
import HandS.Head0
import HandS.Head1
import HandS.Head2
import HandS.HeadEnd
import HandS.HeadHook1
import HandS.HeadHook2
import HandS.Codes
import PyProof.P3Eq
import PySem.Challenge.RW_mapwide_k60_whole_lengths_as_anew
set_option Elab.async false
set_option linter.all false
section
set_option maxRecDepth 100000
/-! DL0: the data layer over the hand layer: values as trees, a store of what may change, what stands still. -/
namespace DL
open PySem PySem.Spec PyProof.Rows L2
abbrev Sg := L2.St

/-- a value as data: trees that stand still, or the place of a thing that may change -/
inductive D where
  | non | bl (b : Bool) | int (i : Int) | str (x : Str) | tup (xs : List D) | lst (xs : List D) | scr (ns : List Int) | loc (a : Addr)

mutual
inductive Rep (K : PySem.W.Frag) (H : Hp) : V → D → Prop where
  | non : Rep K H .non .non
  | bl {b : Bool} : Rep K H (.bl b) (.bl b)
  | int {i : Int} : Rep K H (.int i) (.int i)
  | str {x : Str} : Rep K H (.str x) (.str x)
  | tup {a : Addr} {vs : List V} {xs : List D} : H a = some (.tup vs) → Reps K H vs xs → Rep K H (.ref a) (.tup xs)
  | lst {a : Addr} {vs : List V} {xs : List D} : H a = some (.lst vs) → Reps K H vs xs → Rep K H (.ref a) (.lst xs)
  | scr {a : Addr} {ns : List Int} : SqL K H a (ns.map V.int) → Rep K H (.ref a) (.scr ns)
  | loc {a : Addr} : Rep K H (.ref a) (.loc a)
inductive Reps (K : PySem.W.Frag) (H : Hp) : List V → List D → Prop where
  | nil : Reps K H [] []
  | cons {v : V} {vs : List V} {x : D} {xs : List D} : Rep K H v x → Reps K H vs xs → Reps K H (v :: vs) (x :: xs)
end

section
variable {K : PySem.W.Frag} {H H' : Hp}
mutual
theorem Rep.mono (e : Same H H') : ∀ {v : V} {x : D}, Rep K H v x → Rep K H' v x
  | _, _, .non => .non
  | _, _, .bl => .bl
  | _, _, .int => .int
  | _, _, .str => .str
  | _, _, .tup h r => .tup (e _ _ h) (Reps.mono e r)
  | _, _, .lst h r => .lst (e _ _ h) (Reps.mono e r)
  | _, _, .scr h => .scr (e.seq h)
  | _, _, .loc => .loc
theorem Reps.mono (e : Same H H') : ∀ {vs : List V} {xs : List D}, Reps K H vs xs → Reps K H' vs xs
  | _, _, .nil => .nil
  | _, _, .cons a b => .cons (Rep.mono e a) (Reps.mono e b)
end
theorem Reps.length : ∀ {vs : List V} {xs : List D}, Reps K H vs xs → vs.length = xs.length
  | _, _, .nil => rfl
  | _, _, .cons _ t => congrArg (· + 1) (Reps.length t)
theorem Reps.get : ∀ {vs : List V} {xs : List D} {i : Nat} {x : D}, Reps K H vs xs → xs[i]? = some x → ∃ v, vs[i]? = some v ∧ Rep K H v x
  | _, _, _, _, .nil, h => by simp at h
  | _, _, 0, _, .cons a _, h => by
    simp at h
    subst h
    exact ⟨_, rfl, a⟩
  | _, _, i + 1, x, .cons _ t, h => by
    obtain ⟨v, e, r⟩ := Reps.get (i := i) (x := x) t (by simpa using h)
    exact ⟨v, by simpa using e, r⟩
theorem Reps.getv : ∀ {vs : List V} {xs : List D} {i : Nat} {v : V}, Reps K H vs xs → vs[i]? = some v → ∃ x, xs[i]? = some x ∧ Rep K H v x
  | _, _, _, _, .nil, h => by simp at h
  | _, _, 0, _, .cons a _, h => by
    simp at h
    subst h
    exact ⟨_, rfl, a⟩
  | _, _, i + 1, v, .cons _ t, h => by
    obtain ⟨x, e, r⟩ := Reps.getv (i := i) (v := v) t (by simpa using h)
    exact ⟨x, by simpa using e, r⟩
theorem Reps.append : ∀ {vs us : List V} {xs ys : List D}, Reps K H vs xs → Reps K H us ys → Reps K H (vs ++ us) (xs ++ ys)
  | _, _, _, _, .nil, s => s
  | _, _, _, _, .cons a t, s => .cons a (Reps.append t s)
theorem Reps.set {v : V} {x : D} (r : Rep K H v x) : ∀ {vs : List V} {xs : List D} (i : Nat), Reps K H vs xs → Reps K H (vs.set i v) (xs.set i x)
  | _, _, _, .nil => .nil
  | _, _, 0, .cons _ t => .cons r t
  | _, _, i + 1, .cons a t => .cons a (Reps.set r i t)
theorem Reps.take : ∀ {vs : List V} {xs : List D} (n : Nat), Reps K H vs xs → Reps K H (vs.take n) (xs.take n)
  | _, _, 0, _ => .nil
  | _, _, _ + 1, .nil => .nil
  | _, _, n + 1, .cons a t => .cons a (Reps.take n t)
theorem Reps.drop : ∀ {vs : List V} {xs : List D} (n : Nat), Reps K H vs xs → Reps K H (vs.drop n) (xs.drop n)
  | _, _, 0, h => h
  | _, _, _ + 1, .nil => .nil
  | _, _, n + 1, .cons _ t => Reps.drop n t
theorem Reps.dropLast : ∀ {vs : List V} {xs : List D}, Reps K H vs xs → Reps K H vs.dropLast xs.dropLast
  | _, _, .nil => .nil
  | _, _, .cons _ .nil => .nil
  | _, _, .cons a (.cons b t) => .cons a (Reps.dropLast (.cons b t))
theorem Reps.eraseIdx : ∀ {vs : List V} {xs : List D} (i : Nat), Reps K H vs xs → Reps K H (vs.eraseIdx i) (xs.eraseIdx i)
  | _, _, _, .nil => .nil
  | _, _, 0, .cons _ t => t
  | _, _, i + 1, .cons a t => .cons a (Reps.eraseIdx i t)
theorem Reps.one {v : V} {x : D} (h : Rep K H v x) : Reps K H [v] [x] := .cons h .nil
theorem Reps.replicate {vs : List V} {xs : List D} (h : Reps K H vs xs) : ∀ n : Nat, Reps K H (List.replicate n vs).flatten (List.replicate n xs).flatten
  | 0 => .nil
  | n + 1 => by
    rw [List.replicate_succ, List.replicate_succ, List.flatten_cons, List.flatten_cons]
    exact h.append (Reps.replicate h n)
theorem Reps.insertIdx {v : V} {x : D} (r : Rep K H v x) : ∀ {vs : List V} {xs : List D} (i : Nat), Reps K H vs xs → Reps K H (vs.insertIdx i v) (xs.insertIdx i x)
  | _, _, 0, h => .cons r h
  | _, _, i + 1, .nil => .nil
  | _, _, i + 1, .cons a t => .cons a (Reps.insertIdx r i t)
theorem Reps.reverse : ∀ {vs : List V} {xs : List D}, Reps K H vs xs → Reps K H vs.reverse xs.reverse
  | _, _, .nil => .nil
  | _, _, .cons a t => by
    rw [List.reverse_cons, List.reverse_cons]
    exact (Reps.reverse t).append (.one a)
theorem Reps.ints : ∀ ns : List Int, Reps K H (ns.map V.int) (ns.map D.int)
  | [] => .nil
  | _ :: r => .cons .int (Reps.ints r)
theorem Reps.ints_inv : ∀ {vs : List V} {ns : List Int}, Reps K H vs (ns.map D.int) → vs = ns.map V.int
  | _, [], .nil => rfl
  | _, _ :: _, .cons a t => by
    cases a
    rw [Reps.ints_inv t]
    rfl
theorem Reps.strs_inv : ∀ {vs : List V} {ns : List Str}, Reps K H vs (ns.map D.str) → vs = ns.map V.str
  | _, [], .nil => rfl
  | _, _ :: _, .cons a t => by
    cases a
    rw [Reps.strs_inv t]
    rfl
theorem Reps.strs : ∀ ns : List Str, Reps K H (ns.map V.str) (ns.map D.str)
  | [] => .nil
  | _ :: r => .cons .str (Reps.strs r)
theorem Reps.bls_inv : ∀ {vs : List V} {ns : List Bool}, Reps K H vs (ns.map D.bl) → vs = ns.map V.bl
  | _, [], .nil => rfl
  | _, _ :: _, .cons a t => by
    cases a
    rw [Reps.bls_inv t]
    rfl
end

/-! ### what may change -/
inductive MO where
  | lst (xs : List D)
  | dic (kvs : List (Key × D))
  | ins (C : Addr) (fs : List (Str × D))
abbrev Mu := Addr → Option MO
def updM (μ : Mu) (a : Addr) (m : MO) : Mu := fun b => if b = a then some m else μ b
def delM (μ : Mu) (a : Addr) : Mu := fun b => if b = a then none else μ b
@[simp] theorem updM_same {μ : Mu} {a : Addr} {m : MO} : updM μ a m a = some m := by unfold updM; rw [if_pos rfl]
theorem updM_ne {μ : Mu} {a b : Addr} {m : MO} (h : b ≠ a) : updM μ a m b = μ b := by unfold updM; rw [if_neg h]
@[simp] theorem updM_updM {μ : Mu} {a : Addr} {m m' : MO} : updM (updM μ a m) a m' = updM μ a m' := by
  funext b
  unfold updM
  split <;> rfl
theorem delM_updM {μ : Mu} {a : Addr} {m : MO} (h : μ a = none) : delM (updM μ a m) a = μ := by
  funext b
  unfold delM updM
  by_cases e : b = a
  · rw [if_pos e, e, h]
  · rw [if_neg e, if_neg e]
theorem ne_of_mu {μ : Mu} {a b : Addr} {m : MO} (h : μ a = some m) (h' : μ b = none) : a ≠ b := by
  intro e
  subst e
  rw [h] at h'
  cases h'

inductive Kvs (K : PySem.W.Frag) (H : Hp) {κ : Type} : List (κ × V) → List (κ × D) → Prop where
  | nil : Kvs K H [] []
  | cons {k : κ} {v : V} {x : D} {l : List (κ × V)} {m : List (κ × D)} : Rep K H v x → Kvs K H l m → Kvs K H ((k, v) :: l) ((k, x) :: m)
theorem Kvs.mono {K : PySem.W.Frag} {H H' : Hp} {κ : Type} (e : Same H H') : ∀ {l : List (κ × V)} {m : List (κ × D)}, Kvs K H l m → Kvs K H' l m
  | _, _, .nil => .nil
  | _, _, .cons a t => .cons (a.mono e) (Kvs.mono e t)

def MOk (K : PySem.W.Frag) (H : Hp) : HO → MO → Prop
  | .lst vs, .lst xs => Reps K H vs xs
  | .dK kvs, .dic ds => Kvs K H kvs ds
  | .ins C _ fs, .ins C' ds => C = C' ∧ Kvs K H fs ds
  | _, _ => False
theorem MOk.mono {K : PySem.W.Frag} {H H' : Hp} (e : Same H H') : ∀ {o : HO} {m : MO}, MOk K H o m → MOk K H' o m := by
  intro o m h
  cases o <;> cases m <;> first | exact h.elim | skip
  · exact Reps.mono e h
  · exact Kvs.mono e h
  · exact ⟨h.1, Kvs.mono e h.2⟩
theorem MOk.lst {K : PySem.W.Frag} {H : Hp} {o : HO} {xs : List D} (h : MOk K H o (.lst xs)) : ∃ vs, o = .lst vs ∧ Reps K H vs xs := by
  cases o <;> first | exact h.elim | exact ⟨_, rfl, h⟩
theorem MOk.dic {K : PySem.W.Frag} {H : Hp} {o : HO} {xs : List (Key × D)} (h : MOk K H o (.dic xs)) : ∃ vs, o = .dK vs ∧ Kvs K H vs xs := by
  cases o <;> first | exact h.elim | exact ⟨_, rfl, h⟩
theorem MOk.ins {K : PySem.W.Frag} {H : Hp} {o : HO} {C : Addr} {xs : List (Str × D)} (h : MOk K H o (.ins C xs)) : ∃ dx fs, o = .ins C dx fs ∧ Kvs K H fs xs := by
  cases o <;> first | exact h.elim | skip
  obtain ⟨e, h⟩ := h
  subst e
  exact ⟨_, _, rfl, h⟩

/-- what stands still (Hf), what is set aside (Fr), what may change (μ), within the heap H -/
structure HR (K : PySem.W.Frag) (Fr Hf : Hp) (μ : Mu) (H : Hp) : Prop where
  ex : Same Hf H
  fr : ∀ a o, Fr a = some o → H a = some o ∧ Hf a = none ∧ μ a = none
  mu : ∀ a m, μ a = some m → Hf a = none ∧ ∃ o, H a = some o ∧ MOk K Hf o m

section
variable {K : PySem.W.Frag} {Fr Hf H : Hp} {μ : Mu} {p a : Addr} {o : HO} {m m' : MO}
theorem same_new (hp : H p = none) : Same H (upd H p o) := fun b z e => by
  rw [upd_ne (ne_of_none e hp)]
  exact e
theorem HR.mu_none (h : HR K Fr Hf μ H) (hp : H p = none) : μ p = none := by
  cases q : μ p with
  | none => rfl
  | some m =>
    obtain ⟨_, o, e, _⟩ := h.mu p m q
    rw [hp] at e
    cases e
theorem HR.hf_none (h : HR K Fr Hf μ H) (hp : H p = none) : Hf p = none := h.ex.free hp
theorem HR.fr_none (h : HR K Fr Hf μ H) (hp : H p = none) : Fr p = none := by
  cases q : Fr p with
  | none => rfl
  | some m =>
    have e := (h.fr p m q).1
    rw [hp] at e
    cases e
/-- a new thing that stands still -/
theorem HR.newF (h : HR K Fr Hf μ H) (hp : H p = none) (o : HO) : HR K Fr (upd Hf p o) μ (upd H p o) where
  ex := fun b z e => by
    by_cases hb : b = p
    · subst hb
      rw [upd_same] at e ⊢
      exact e
    · rw [upd_ne hb] at e ⊢
      exact h.ex b z e
  fr := fun b z e => by
    obtain ⟨e1, e2, e3⟩ := h.fr b z e
    have hb : b ≠ p := ne_of_none e1 hp
    rw [upd_ne hb, upd_ne hb]
    exact ⟨e1, e2, e3⟩
  mu := fun b z e => by
    obtain ⟨e1, o', e2, e3⟩ := h.mu b z e
    have hb : b ≠ p := ne_of_none e2 hp
    rw [upd_ne hb, upd_ne hb]
    exact ⟨e1, o', e2, e3.mono (same_new (h.hf_none hp))⟩
/-- a new thing that may change -/
theorem HR.newM (h : HR K Fr Hf μ H) (hp : H p = none) (hm : MOk K Hf o m) : HR K Fr Hf (updM μ p m) (upd H p o) where
  ex := fun b z e => by
    rw [upd_ne (ne_of_none e (h.hf_none hp))]
    exact h.ex b z e
  fr := fun b z e => by
    obtain ⟨e1, e2, e3⟩ := h.fr b z e
    have hb : b ≠ p := ne_of_none e1 hp
    rw [upd_ne hb, updM_ne hb]
    exact ⟨e1, e2, e3⟩
  mu := fun b z e => by
    by_cases hb : b = p
    · subst hb
      rw [updM_same] at e
      cases e
      exact ⟨h.hf_none hp, o, upd_same, hm⟩
    · rw [updM_ne hb] at e
      rw [upd_ne hb]
      exact h.mu b z e
/-- a thing changes -/
theorem HR.set (h : HR K Fr Hf μ H) (ha : μ a = some m) (hm : MOk K Hf o m') : HR K Fr Hf (updM μ a m') (upd H a o) where
  ex := fun b z e => by
    have n := (h.mu a m ha).1
    rw [upd_ne (ne_of_none e n)]
    exact h.ex b z e
  fr := fun b z e => by
    obtain ⟨e1, e2, e3⟩ := h.fr b z e
    have hb : b ≠ a := (ne_of_mu ha e3).symm
    rw [upd_ne hb, updM_ne hb]
    exact ⟨e1, e2, e3⟩
  mu := fun b z e => by
    by_cases hb : b = a
    · subst hb
      rw [updM_same] at e
      cases e
      exact ⟨(h.mu b m ha).1, o, upd_same, hm⟩
    · rw [updM_ne hb] at e
      rw [upd_ne hb]
      exact h.mu b z e
/-- a list will not change any more -/
theorem HR.frz {xs : List D} (h : HR K Fr Hf μ H) (ha : μ a = some (.lst xs)) : ∃ vs, H a = some (.lst vs) ∧ Hf a = none ∧ Reps K Hf vs xs ∧ HR K Fr (upd Hf a (.lst vs)) (delM μ a) H := by
  obtain ⟨e1, o, e2, e3⟩ := h.mu a _ ha
  obtain ⟨vs, rfl, r⟩ := e3.lst
  refine ⟨vs, e2, e1, r, ⟨fun b z e => ?_, fun b z e => ?_, fun b z e => ?_⟩⟩
  · by_cases hb : b = a
    · subst hb
      rw [upd_same] at e
      cases e
      exact e2
    · rw [upd_ne hb] at e
      exact h.ex b z e
  · obtain ⟨f1, f2, f3⟩ := h.fr b z e
    have hb : b ≠ a := (ne_of_mu ha f3).symm
    rw [upd_ne hb]
    refine ⟨f1, f2, ?_⟩
    unfold delM
    rw [if_neg hb]
    exact f3
  · unfold delM at e
    by_cases hb : b = a
    · rw [if_pos hb] at e
      cases e
    · rw [if_neg hb] at e
      obtain ⟨g1, o', g2, g3⟩ := h.mu b z e
      rw [upd_ne hb]
      exact ⟨g1, o', g2, g3.mono (same_new e1)⟩
/-- a thing is forgotten -/
theorem HR.drop {μ' : Mu} (h : HR K Fr Hf μ H) (hs : ∀ a m, μ' a = some m → μ a = some m) : HR K Fr Hf μ' H where
  ex := h.ex
  fr := fun b z e => by
    obtain ⟨f1, f2, f3⟩ := h.fr b z e
    refine ⟨f1, f2, ?_⟩
    cases q : μ' b with
    | none => rfl
    | some m =>
      rw [hs b m q] at f3
      cases f3
  mu := fun b z e => h.mu b z (hs b z e)
/-- set aside a new thing -/
theorem HR.newFr (h : HR K Fr Hf μ H) (hp : H p = none) (o : HO) : HR K (upd Fr p o) Hf μ (upd H p o) where
  ex := fun b z e => by
    rw [upd_ne (ne_of_none e (h.hf_none hp))]
    exact h.ex b z e
  fr := fun b z e => by
    by_cases hb : b = p
    · subst hb
      rw [upd_same] at e
      cases e
      exact ⟨upd_same, h.hf_none hp, h.mu_none hp⟩
    · rw [upd_ne hb] at e
      rw [upd_ne hb]
      exact h.fr b z e
  mu := fun b z e => by
    obtain ⟨e1, o', e2, e3⟩ := h.mu b z e
    have hb : b ≠ p := ne_of_none e2 hp
    rw [upd_ne hb]
    exact ⟨e1, o', e2, e3⟩
/-- what is set aside changes -/
theorem HR.setFr {u : HO} (h : HR K (upd Fr p u) Hf μ H) (o : HO) : HR K (upd Fr p o) Hf μ (upd H p o) := by
  have hp := h.fr p u upd_same
  refine ⟨fun b z e => ?_, fun b z e => ?_, fun b z e => ?_⟩
  · rw [upd_ne (ne_of_none e hp.2.1)]
    exact h.ex b z e
  · by_cases hb : b = p
    · subst hb
      rw [upd_same] at e
      cases e
      exact ⟨upd_same, hp.2.1, hp.2.2⟩
    · rw [upd_ne hb] at e
      rw [upd_ne hb]
      exact h.fr b z (by rw [upd_ne hb]; exact e)
  · obtain ⟨e1, o', e2, e3⟩ := h.mu b z e
    have hb : b ≠ p := ne_of_mu e hp.2.2
    rw [upd_ne hb]
    exact ⟨e1, o', e2, e3⟩
/-- what was set aside is taken back as a thing that may change -/
theorem HR.back {u : HO} (hn : Fr p = none) (h : HR K (upd Fr p u) Hf μ H) (hm : MOk K Hf u m) : HR K Fr Hf (updM μ p m) H := by
  have hp := h.fr p u upd_same
  refine ⟨h.ex, fun b z e => ?_, fun b z e => ?_⟩
  · have hb : b ≠ p := ne_of_none e hn
    rw [updM_ne hb]
    exact h.fr b z (by rw [upd_ne hb]; exact e)
  · by_cases hb : b = p
    · subst hb
      rw [updM_same] at e
      cases e
      exact ⟨hp.2.1, u, hp.1, hm⟩
    · rw [updM_ne hb] at e
      exact h.mu b z e
end

/-! ### slots -/
abbrev Ro := List (Option D)
def RelOD (K : PySem.W.Frag) (H : Hp) (o : Option V) : Option D → Prop
  | none => True
  | some d => ∃ v, o = some v ∧ Rep K H v d
inductive SlR (K : PySem.W.Frag) (H : Hp) : Sg → Ro → Prop where
  | nil : SlR K H [] []
  | cons {o : Option V} {d : Option D} {σ : Sg} {ρ : Ro} : RelOD K H o d → SlR K H σ ρ → SlR K H (o :: σ) (d :: ρ)
section
variable {K : PySem.W.Frag} {H H' : Hp}
theorem RelOD.mono (e : Same H H') {o : Option V} {d : Option D} (h : RelOD K H o d) : RelOD K H' o d := by
  cases d with
  | none => trivial
  | some d =>
    obtain ⟨v, e1, r⟩ := h
    exact ⟨v, e1, r.mono e⟩
theorem SlR.mono (e : Same H H') : ∀ {σ : Sg} {ρ : Ro}, SlR K H σ ρ → SlR K H' σ ρ
  | _, _, .nil => .nil
  | _, _, .cons a t => .cons (a.mono e) (SlR.mono e t)
/-- the value in a slot -/
def slot : Ro → Nat → Option D
  | [], _ => none
  | d :: _, 0 => d
  | _ :: r, n + 1 => slot r n
def setS : Ro → Nat → Option D → Ro
  | [], _, _ => []
  | _ :: r, 0, x => x :: r
  | d :: r, n + 1, x => d :: setS r n x
theorem SlR.get : ∀ {σ : Sg} {ρ : Ro} {i : Nat} {d : D}, SlR K H σ ρ → slot ρ i = some d → ∃ v, σ[i]? = some (some v) ∧ Rep K H v d
  | _, _, _, _, .nil, h => by cases h
  | _, _, 0, _, .cons (d := d') a _, h => by
    have h' : d' = some _ := h
    subst h'
    obtain ⟨v, rfl, r⟩ := a
    exact ⟨v, rfl, r⟩
  | _, _, i + 1, _, .cons _ t, h => by
    obtain ⟨v, e, r⟩ := SlR.get (i := i) t h
    exact ⟨v, by simpa using e, r⟩
theorem SlR.set {v : V} {x : D} (r : Rep K H v x) : ∀ {σ : Sg} {ρ : Ro} (i : Nat), SlR K H σ ρ → SlR K H (σ.set i (some v)) (setS ρ i (some x))
  | _, _, _, .nil => .nil
  | _, _, 0, .cons _ t => .cons ⟨v, rfl, r⟩ t
  | _, _, i + 1, .cons a t => .cons a (SlR.set r i t)
theorem SlR.unset : ∀ {σ : Sg} {ρ : Ro} (i : Nat) (o : Option V), SlR K H σ ρ → SlR K H (σ.set i o) (setS ρ i none)
  | _, _, _, _, .nil => .nil
  | _, _, 0, _, .cons _ t => .cons trivial t
  | _, _, i + 1, o, .cons a t => .cons a (SlR.unset i o t)
def unsetAll : Ro → List Nat → Ro
  | ρ, [] => ρ
  | ρ, i :: r => setS (unsetAll ρ r) i none
theorem SlR.wipe {σ : Sg} {ρ : Ro} (h : SlR K H σ ρ) : ∀ l : List Nat, SlR K H (L2.wipe σ l) (unsetAll ρ l)
  | [] => h
  | i :: r => (SlR.wipe h r).unset i none
end
end DL
end

section
set_option maxRecDepth 100000
/-! DL1: expressions by data. -/
namespace DL
open PySem PySem.Spec PyProof.Rows L2

abbrev DK := D → Mu → Prop
abbrev DE := Ro → Mu → DK → Prop
abbrev DT := Ro → Mu → (Bool → Mu → Prop) → Prop
abbrev DA := Ro → Mu → (List D → Mu → Prop) → Prop
abbrev DR := D → D → Mu → DK → Prop
abbrev DU := D → Mu → DK → Prop
abbrev DC := List D → Mu → DK → Prop

/-- what is known of the surroundings (a wish about exceptions): it stays -/
structure Amb where
  P : Hp → Hp → Prop
  mono : ∀ {Fr Fr' Hf Hf' : Hp}, Same Fr Fr' → Same Hf Hf' → P Fr Hf → P Fr' Hf'
def Amb.none : Amb := ⟨fun _ _ => True, fun _ _ _ => trivial⟩

structure RS (K : PySem.W.Frag) (A : Amb) (Fr Hf : Hp) (μ : Mu) (H : Hp) : Prop where
  hr : HR K Fr Hf μ H
  am : A.P Fr Hf

def KK (K : PySem.W.Frag) (A : Amb) (Fr Hf : Hp) (k : DK) (Q : VK) : Prop := ∀ Hf' μ' H' v x, Same Hf Hf' → RS K A Fr Hf' μ' H' → Rep K Hf' v x → k x μ' → Q v H'
def KT (K : PySem.W.Frag) (A : Amb) (Fr Hf : Hp) (k : Bool → Mu → Prop) (Q : Bool → Hp → Prop) : Prop := ∀ Hf' μ' H' b, Same Hf Hf' → RS K A Fr Hf' μ' H' → k b μ' → Q b H'
def KA (K : PySem.W.Frag) (A : Amb) (Fr Hf : Hp) (k : List D → Mu → Prop) (Q : List V → Hp → Prop) : Prop := ∀ Hf' μ' H' vs xs, Same Hf Hf' → RS K A Fr Hf' μ' H' → Reps K Hf' vs xs → k xs μ' → Q vs H'
section
variable {K : PySem.W.Frag} {A : Amb} {Fr Hf Hf1 H : Hp} {μ : Mu} {k : DK} {Q : VK}
theorem KK.go (h : KK K A Fr Hf k Q) (e : Same Hf Hf1) : KK K A Fr Hf1 k Q := fun _ _ _ _ _ e2 => h _ _ _ _ _ (e.trans e2)
theorem KT.go {k : Bool → Mu → Prop} {Q : Bool → Hp → Prop} (h : KT K A Fr Hf k Q) (e : Same Hf Hf1) : KT K A Fr Hf1 k Q := fun _ _ _ _ e2 => h _ _ _ _ (e.trans e2)
theorem KA.go {k : List D → Mu → Prop} {Q : List V → Hp → Prop} (h : KA K A Fr Hf k Q) (e : Same Hf Hf1) : KA K A Fr Hf1 k Q := fun _ _ _ _ _ e2 => h _ _ _ _ _ (e.trans e2)
theorem KK.at (h : KK K A Fr Hf k Q) (s : RS K A Fr Hf μ H) {v : V} {x : D} (r : Rep K Hf v x) (hk : k x μ) : Q v H := h _ _ _ _ _ (Same.refl _) s r hk
theorem RS.newF (s : RS K A Fr Hf μ H) {p : Addr} (hp : H p = none) (o : HO) : RS K A Fr (upd Hf p o) μ (upd H p o) := ⟨s.hr.newF hp o, A.mono (Same.refl _) (same_new (s.hr.hf_none hp)) s.am⟩
theorem RS.sameF (s : RS K A Fr Hf μ H) {p : Addr} (hp : H p = none) (o : HO) : Same Hf (upd Hf p o) := same_new (s.hr.hf_none hp)
theorem RS.newM (s : RS K A Fr Hf μ H) {p : Addr} {o : HO} {m : MO} (hp : H p = none) (hm : MOk K Hf o m) : RS K A Fr Hf (updM μ p m) (upd H p o) := ⟨s.hr.newM hp hm, s.am⟩
theorem RS.set (s : RS K A Fr Hf μ H) {a : Addr} {o : HO} {m m' : MO} (ha : μ a = some m) (hm : MOk K Hf o m') : RS K A Fr Hf (updM μ a m') (upd H a o) := ⟨s.hr.set ha hm, s.am⟩
end

/-! ### canonical readings -/
def tD (K : PySem.W.Frag) (A : Amb) (d : DE) : TE := fun σ H Q => ∃ Fr Hf μ ρ k, RS K A Fr Hf μ H ∧ SlR K Hf σ ρ ∧ d ρ μ k ∧ KK K A Fr Hf k Q
def tDT (K : PySem.W.Frag) (A : Amb) (d : DT) : TT := fun σ H Q => ∃ Fr Hf μ ρ k, RS K A Fr Hf μ H ∧ SlR K Hf σ ρ ∧ d ρ μ k ∧ KT K A Fr Hf k Q
def tDA (K : PySem.W.Frag) (A : Amb) (d : DA) : TA := fun σ H Q => ∃ Fr Hf μ ρ k, RS K A Fr Hf μ H ∧ SlR K Hf σ ρ ∧ d ρ μ k ∧ KA K A Fr Hf k Q
def PD (X : Cx) (A : Amb) (e : Expr) (d : DE) : Prop := PE X e (tD X.K A d)
def PTD (X : Cx) (A : Amb) (e : Expr) (d : DT) : Prop := PT X e (tDT X.K A d)
def PAD (X : Cx) (A : Amb) (es : List Expr) (d : DA) : Prop := PA X es (tDA X.K A d)
def PWD (X : Cx) (A : Amb) (e : Expr) (d : DT) : Prop := PW X e (tDT X.K A d)
section
variable {X : Cx} {A : Amb} {e : Expr} {es : List Expr} {K : PySem.W.Frag}
theorem PE.imp {t t' : TE} (h : PE X e t) (i : ∀ σ H Q, t' σ H Q → t σ H Q) : PE X e t' := ⟨fun pins s σ H Q I q => h.run pins s σ H Q I (i _ _ _ q)⟩
theorem PT.imp {t t' : TT} (h : PT X e t) (i : ∀ σ H Q, t' σ H Q → t σ H Q) : PT X e t' := ⟨fun pins s σ H Q I q => h.run pins s σ H Q I (i _ _ _ q)⟩
theorem PW.imp {t t' : TT} (h : PW X e t) (i : ∀ σ H Q, t' σ H Q → t σ H Q) : PW X e t' := ⟨fun w pins s σ H Q I q => h.run w pins s σ H Q I (i _ _ _ q)⟩
theorem PA.imp {t t' : TA} (h : PA X es t) (i : ∀ σ H Q, t' σ H Q → t σ H Q) : PA X es t' := ⟨fun p pins s σ H Q I q => h.run p pins s σ H Q I (i _ _ _ q)⟩
theorem tD.imp {d d' : DE} (i : ∀ ρ μ k, d' ρ μ k → d ρ μ k) {σ : Sg} {H : Hp} {Q : VK} (h : tD K A d' σ H Q) : tD K A d σ H Q := by
  obtain ⟨Fr, Hf, μ, ρ, k, s, sl, hd, kk⟩ := h
  exact ⟨Fr, Hf, μ, ρ, k, s, sl, i _ _ _ hd, kk⟩
theorem PD.imp {d d' : DE} (h : PD X A e d) (i : ∀ ρ μ k, d' ρ μ k → d ρ μ k) : PD X A e d' := PE.imp h fun _ _ _ => tD.imp i
theorem PTD.imp {d d' : DT} (h : PTD X A e d) (i : ∀ ρ μ k, d' ρ μ k → d ρ μ k) : PTD X A e d' := PT.imp h fun σ H Q q => by
  obtain ⟨Fr, Hf, μ, ρ, k, s, sl, hd, kk⟩ := q
  exact ⟨Fr, Hf, μ, ρ, k, s, sl, i _ _ _ hd, kk⟩
theorem PWD.imp {d d' : DT} (h : PWD X A e d) (i : ∀ ρ μ k, d' ρ μ k → d ρ μ k) : PWD X A e d' := PW.imp h fun σ H Q q => by
  obtain ⟨Fr, Hf, μ, ρ, k, s, sl, hd, kk⟩ := q
  exact ⟨Fr, Hf, μ, ρ, k, s, sl, i _ _ _ hd, kk⟩
theorem PAD.imp {d d' : DA} (h : PAD X A es d) (i : ∀ ρ μ k, d' ρ μ k → d ρ μ k) : PAD X A es d' := PA.imp h fun σ H Q q => by
  obtain ⟨Fr, Hf, μ, ρ, k, s, sl, hd, kk⟩ := q
  exact ⟨Fr, Hf, μ, ρ, k, s, sl, i _ _ _ hd, kk⟩
end

/-! ### pure readings -/
abbrev EvE := Ro → Mu → Option D
abbrev EvT := Ro → Mu → Option Bool
abbrev EvA := Ro → Mu → Option (List D)
def dP (ev : EvE) : DE := fun ρ μ k => ∃ d, ev ρ μ = some d ∧ k d μ
def dPT (ev : EvT) : DT := fun ρ μ k => ∃ d, ev ρ μ = some d ∧ k d μ
def dPA (ev : EvA) : DA := fun ρ μ k => ∃ d, ev ρ μ = some d ∧ k d μ
def p2 (g : Mu → D → D → Option D) : DR := fun x y μ k => ∃ d, g μ x y = some d ∧ k d μ
def p1 (g : Mu → D → Option D) : DU := fun x μ k => ∃ d, g μ x = some d ∧ k d μ
def pN (g : Mu → List D → Option D) : DC := fun xs μ k => ∃ d, g μ xs = some d ∧ k d μ
abbrev PV (X : Cx) (A : Amb) (e : Expr) (ev : EvE) : Prop := PD X A e (dP ev)
abbrev PTV (X : Cx) (A : Amb) (e : Expr) (ev : EvT) : Prop := PTD X A e (dPT ev)
abbrev PWV (X : Cx) (A : Amb) (e : Expr) (ev : EvT) : Prop := PWD X A e (dPT ev)
abbrev PAV (X : Cx) (A : Amb) (es : List Expr) (ev : EvA) : Prop := PAD X A es (dPA ev)
def e2 (g : Mu → D → D → Option D) (a b : EvE) (ρ : Ro) (μ : Mu) : Option D := (a ρ μ).bind fun x => (b ρ μ).bind fun y => g μ x y
def e1 (g : Mu → D → Option D) (a : EvE) (ρ : Ro) (μ : Mu) : Option D := (a ρ μ).bind fun x => g μ x
def eN (g : Mu → List D → Option D) (a : EvA) (ρ : Ro) (μ : Mu) : Option D := (a ρ μ).bind fun x => g μ x
def eC (d : D) (_ : Ro) (_ : Mu) : Option D := some d
def eV (i : Nat) (ρ : Ro) (_ : Mu) : Option D := slot ρ i

/-! ### names, constants -/
section
variable {X : Cx} {A : Amb} {e a b c : Expr} {pos : Pos}
theorem pv_of {t : TE} {ev : EvE} (h : PE X e t) (i : ∀ (Fr Hf : Hp) (μ : Mu) (H : Hp) (σ : Sg) (ρ : Ro) (d : D) (Q : VK), RS X.K A Fr Hf μ H → SlR X.K Hf σ ρ → ev ρ μ = some d → (∀ v, Rep X.K Hf v d → Q v H) → t σ H Q) : PV X A e ev :=
  PE.imp h fun σ H Q q => by
    obtain ⟨Fr, Hf, μ, ρ, k, s, sl, ⟨d, hd, hk⟩, kk⟩ := q
    exact i Fr Hf μ H σ ρ d Q s sl hd fun v r => kk.at s r hk
theorem pv_c {v : V} {d : D} (h : PE X e (tC v)) (r : ∀ H, Rep X.K H v d) : PV X A e (eC d) :=
  pv_of h fun Fr Hf μ H σ ρ d' Q s sl hd q => by
    cases hd
    exact q _ (r _)
theorem pv_int {i j pos} : PV X A (.Constant (.int i) j pos) (eC (.int i)) := pv_c pe_int fun _ => .int
theorem pv_bl {b j pos} : PV X A (.Constant (.bool b) j pos) (eC (.bl b)) := pv_c pe_bl fun _ => .bl
theorem pv_non {j pos} : PV X A (.Constant .none j pos) (eC .non) := pv_c pe_non fun _ => .non
theorem pv_str {x j pos} : PV X A (.Constant (.str x) j pos) (eC (.str x)) := pv_c pe_str fun _ => .str
theorem pv_varT {i : Nat} (h : PE X e (tVar i)) : PV X A e (eV i) :=
  pv_of h fun Fr Hf μ H σ ρ d Q s sl hd q => by
    obtain ⟨v, e1, r⟩ := sl.get hd
    exact ⟨v, e1, q v r⟩
theorem pn (i : Nat) {x : Str} {pos : Pos} (hN : X.N[i]? = some x := by rfl) (hv : Vis X.env.scope x := by first | exact Or.inl rfl | exact Or.inr (Or.inl rfl) | exact Or.inr (Or.inr rfl)) (hd : (x == ("__debug__" : Str)) = false := by decide)
    (hcd : (x == ("__classdict__" : Str)) = false := by decide) : PV X A (.Name x pos) (eV i) := pv_varT (pe_var hN hv hd hcd)

/-! ### two-place operations -/
def SdR (K : PySem.W.Frag) (A : Amb) (r : R2) (f : DR) : Prop := ∀ (Fr Hf : Hp) (μ : Mu) (H : Hp) (v w : V) (x y : D) (k : DK) (Q : VK), RS K A Fr Hf μ H → Rep K Hf v x → Rep K Hf w y → f x y μ k → KK K A Fr Hf k Q → r v w H Q
def dOp (f : DR) (da db : DE) : DE := fun ρ μ k => da ρ μ fun x μ1 => db ρ μ1 fun y μ2 => f x y μ2 k
/-- two expressions in a row -/
theorem d_two {K : PySem.W.Frag} {da db : DE} {σ : Sg} {H : Hp} {Q : VK} {r : V → V → Hp → VK → Prop} {f : D → D → Mu → DK → Prop}
    (hs : ∀ (Fr Hf : Hp) (μ : Mu) (H : Hp) (v w : V) (x y : D) (k : DK) (Q : VK), RS K A Fr Hf μ H → Rep K Hf v x → Rep K Hf w y → f x y μ k → KK K A Fr Hf k Q → r v w H Q)
    (h : tD K A (fun ρ μ k => da ρ μ fun x μ1 => db ρ μ1 fun y μ2 => f x y μ2 k) σ H Q) : tD K A da σ H fun x H1 => tD K A db σ H1 fun y H2 => r x y H2 Q := by
  obtain ⟨Fr, Hf, μ, ρ, k, s, sl, hd, kk⟩ := h
  refine ⟨Fr, Hf, μ, ρ, _, s, sl, hd, fun Hf1 μ1 H1 v x e1 s1 r1 h1 => ?_⟩
  refine ⟨Fr, Hf1, μ1, ρ, _, s1, sl.mono e1, h1, fun Hf2 μ2 H2 w y e2 s2 r2 h2 => ?_⟩
  exact hs Fr Hf2 μ2 H2 v w x y k Q s2 (r1.mono e2) r2 h2 (kk.go (e1.trans e2))
theorem pd_op {op : Operator} {r : R2} {f : DR} {da db : DE} (ho : OpR X (binaryOp op) r) (hs : SdR X.K A r f) (ha : PD X A a da) (hb : PD X A b db) : PD X A (.BinOp a op b pos) (dOp f da db) :=
  PE.imp (pe_op ho ha hb) fun _ _ _ q => d_two hs q
theorem pd_cmp {op : CmpOp} {r : R2} {f : DR} {da db : DE} (ho : OpR X (compareOp op) r) (hs : SdR X.K A r f) (ha : PD X A a da) (hb : PD X A b db) (hm : behindInMarks op b = false) : PD X A (.Compare a [op] [b] pos) (dOp f da db) :=
  PE.imp (pe_cmpR ho ha hb hm) fun _ _ _ q => d_two hs q
theorem dP_op {g : Mu → D → D → Option D} {ea eb : EvE} : ∀ ρ μ k, dP (e2 g ea eb) ρ μ k → dOp (p2 g) (dP ea) (dP eb) ρ μ k := fun ρ μ k h => by
  obtain ⟨d, hd, hk⟩ := h
  unfold e2 at hd
  cases ha : ea ρ μ with
  | none => rw [ha] at hd; cases hd
  | some x =>
    cases hb : eb ρ μ with
    | none => rw [ha, hb] at hd; cases hd
    | some y =>
      rw [ha, hb] at hd
      exact ⟨x, ha, y, hb, d, hd, hk⟩
theorem pv_op {op : Operator} {r : R2} {g : Mu → D → D → Option D} {ea eb : EvE} (ho : OpR X (binaryOp op) r) (hs : SdR X.K A r (p2 g)) (ha : PV X A a ea) (hb : PV X A b eb) : PV X A (.BinOp a op b pos) (e2 g ea eb) := (pd_op ho hs ha hb).imp dP_op
theorem pv_cmp {op : CmpOp} {r : R2} {g : Mu → D → D → Option D} {ea eb : EvE} (ho : OpR X (compareOp op) r) (hs : SdR X.K A r (p2 g)) (ha : PV X A a ea) (hb : PV X A b eb) (hm : behindInMarks op b = false) : PV X A (.Compare a [op] [b] pos) (e2 g ea eb) := (pd_cmp ho hs ha hb hm).imp dP_op
/-- an operation that makes and changes nothing -/
theorem sdr_of {K : PySem.W.Frag} {r : R2} {g : Mu → D → D → Option D} (h : ∀ (Fr Hf : Hp) (μ : Mu) (H : Hp) (v w : V) (x y d : D) (Q : VK), HR K Fr Hf μ H → Rep K Hf v x → Rep K Hf w y → g μ x y = some d → (∀ u, Rep K Hf u d → Q u H) → r v w H Q) : SdR K A r (p2 g) :=
  fun Fr Hf μ H v w x y k Q s rv rw_ hd kk => by
    obtain ⟨d, hg, hk⟩ := hd
    exact h Fr Hf μ H v w x y d Q s.hr rv rw_ hg fun u ru => kk.at s ru hk
/-- one that makes one new thing that stands still -/
theorem sdr_new {K : PySem.W.Frag} {r : R2} {g : Mu → D → D → Option D} (h : ∀ (Fr Hf : Hp) (μ : Mu) (H : Hp) (v w : V) (x y d : D) (Q : VK), HR K Fr Hf μ H → Rep K Hf v x → Rep K Hf w y → g μ x y = some d →
    (∀ u, Rep K Hf u d → Q u H) → (∀ p o, H p = none → Rep K (upd Hf p o) (.ref p) d → Q (.ref p) (upd H p o)) → r v w H Q) : SdR K A r (p2 g) :=
  fun Fr Hf μ H v w x y k Q s rv rw_ hd kk => by
    obtain ⟨d, hg, hk⟩ := hd
    refine h Fr Hf μ H v w x y d Q s.hr rv rw_ hg (fun u ru => kk.at s ru hk) fun p o hp ru => ?_
    exact kk _ _ _ _ _ (s.sameF hp o) (s.newF hp o) ru hk
end
theorem Rep.newL {K : PySem.W.Frag} {Hf : Hp} {p : Addr} {vs : List V} {xs : List D} (hp : Hf p = none) (r : Reps K Hf vs xs) : Rep K (upd Hf p (.lst vs)) (.ref p) (.lst xs) := .lst upd_same (r.mono (same_new hp))
theorem Rep.newT {K : PySem.W.Frag} {Hf : Hp} {p : Addr} {vs : List V} {xs : List D} (hp : Hf p = none) (r : Reps K Hf vs xs) : Rep K (upd Hf p (.tup vs)) (.ref p) (.tup xs) := .tup upd_same (r.mono (same_new hp))

/-! ### sequences -/
def itemsL (μ : Mu) : D → Option (List D)
  | .lst xs => some xs
  | .scr ns => some (ns.map .int)
  | .loc p => match μ p with
    | some (.lst xs) => some xs
    | _ => none
  | _ => none
def itemsT : D → Option (List D)
  | .tup xs => some xs
  | _ => none
def items (μ : Mu) (x : D) : Option (List D) := match x with
  | .tup xs => some xs
  | .lst xs => some xs
  | .scr ns => some (ns.map .int)
  | .loc p => match μ p with
    | some (.lst xs) => some xs
    | _ => none
  | _ => none
/-- a list that is tracked as such -/
def itemsM (μ : Mu) : D → Option (List D)
  | .lst xs => some xs
  | .loc p => match μ p with
    | some (.lst xs) => some xs
    | _ => none
  | _ => none
section
variable {K : PySem.W.Frag} {Fr Hf H : Hp} {μ : Mu} {v : V} {x : D} {xs : List D}
theorem HR.itemsM (s : HR K Fr Hf μ H) (r : Rep K Hf v x) (h : itemsM μ x = some xs) : ∃ a vs, v = .ref a ∧ H a = some (.lst vs) ∧ Reps K Hf vs xs := by
  cases r <;> simp only [DL.itemsM] at h <;> try cases h
  case lst a vs ha hr => exact ⟨a, vs, rfl, s.ex _ _ ha, hr⟩
  case loc a =>
    cases hm : μ a with
    | none => rw [hm] at h; cases h
    | some m =>
      cases m with
      | lst ys =>
        rw [hm] at h
        cases h
        obtain ⟨_, o, e, ok⟩ := s.mu a _ hm
        obtain ⟨vs, rfl, rs⟩ := ok.lst
        exact ⟨a, vs, rfl, e, rs⟩
      | _ => rw [hm] at h; cases h
theorem HR.itemsL (s : HR K Fr Hf μ H) (r : Rep K Hf v x) (h : itemsL μ x = some xs) : ∃ a vs, v = .ref a ∧ SqL K H a vs ∧ Reps K Hf vs xs := by
  cases r <;> simp only [DL.itemsL] at h <;> try cases h
  case lst a vs ha hr => exact ⟨a, vs, rfl, .inl (.inl (s.ex _ _ ha)), hr⟩
  case scr a ns hs => exact ⟨a, _, rfl, s.ex.seq hs, Reps.ints ns⟩
  case loc a =>
    cases hm : μ a with
    | none => rw [hm] at h; cases h
    | some m =>
      cases m with
      | lst ys =>
        rw [hm] at h
        cases h
        obtain ⟨_, o, e, ok⟩ := s.mu a _ hm
        obtain ⟨vs, rfl, rs⟩ := ok.lst
        exact ⟨a, vs, rfl, .inl (.inl e), rs⟩
      | _ => rw [hm] at h; cases h
theorem HR.itemsT (s : HR K Fr Hf μ H) (r : Rep K Hf v x) (h : itemsT x = some xs) : ∃ a vs, v = .ref a ∧ H a = some (.tup vs) ∧ Reps K Hf vs xs := by
  cases r <;> simp only [DL.itemsT] at h <;> try cases h
  case tup a vs ha hr => exact ⟨a, vs, rfl, s.ex _ _ ha, hr⟩
theorem HR.items (s : HR K Fr Hf μ H) (r : Rep K Hf v x) (h : items μ x = some xs) : ∃ a vs, v = .ref a ∧ (SqL K H a vs ∨ SqT K H a vs) ∧ Reps K Hf vs xs := by
  by_cases ht : ∃ ys, x = .tup ys
  · obtain ⟨ys, rfl⟩ := ht
    obtain ⟨a, vs, e, h1, h2⟩ := s.itemsT r (show DL.itemsT (.tup ys) = some xs from h)
    exact ⟨a, vs, e, .inr (.inl (.inl h1)), h2⟩
  · have : DL.itemsL μ x = some xs := by
      cases x <;> first | exact h | exact absurd ⟨_, rfl⟩ ht
    obtain ⟨a, vs, e, h1, h2⟩ := s.itemsL r this
    exact ⟨a, vs, e, .inl h1, h2⟩
theorem Reps.atI {vs : List V} {xs : List D} (r : Reps K Hf vs xs) {i : Int} {d : D} (h : atI xs i = some d) : ∃ u, L2.atI vs i = some u ∧ Rep K Hf u d := by
  unfold L2.atI at h ⊢
  rw [r.length]
  cases hj : ixN xs.length i with
  | none => rw [hj] at h; cases h
  | some j =>
    rw [hj] at h
    exact r.get h
end

/-! ### the operations on data -/
def gArith (f : Int → Int → Int) : Mu → D → D → Option D := fun _ x y => match x, y with
  | .int i, .int j => some (.int (f i j))
  | _, _ => none
def gAdd : Mu → D → D → Option D := fun μ x y => match x, y with
  | .int i, .int j => some (.int (i + j))
  | .str a, .str b => if a.length + b.length ≤ 1000000 then some (.str (a ++ b)) else none
  | .tup xs, .tup ys => if xs.length + ys.length ≤ 100000 then some (.tup (xs ++ ys)) else none
  | x, y => match itemsM μ x, itemsM μ y with
    | some xs, some ys => if xs.length + ys.length ≤ 100000 then some (.lst (xs ++ ys)) else none
    | _, _ => none
/-- ints or a list times an int -/
def gMul : Mu → D → D → Option D := fun μ x y => match x, y with
  | .int i, .int j => if (-(2 ^ 64) < i ∧ i < 2 ^ 64) ∨ (-(2 ^ 64) < j ∧ j < 2 ^ 64) then some (.int (i * j)) else none
  | x, .int k => match itemsM μ x with
    | some xs => if (0 ≤ k ∧ k ≤ 100000) ∧ xs.length * k.toNat ≤ 100000 then some (.lst (List.replicate k.toNat xs).flatten) else none
    | none => none
  | _, _ => none
def gDiv : Mu → D → D → Option D := fun _ x y => match x, y with
  | .int i, .int j => if j ≠ 0 ∧ j.natAbs < 1073741824 then some (.int (i.fdiv j)) else none
  | _, _ => none
def gMod : Mu → D → D → Option D := fun _ x y => match x, y with
  | .int i, .int j => if j ≠ 0 then some (.int (i.fmod j)) else none
  | _, _ => none
def gPow : Mu → D → D → Option D := fun _ x y => match x, y with
  | .int i, .int j => if 0 ≤ j ∧ j ≤ 1000000 ∧ i.natAbs < 2 ^ 64 then some (.int (i ^ j.toNat)) else none
  | _, _ => none
theorem le_size {n : Nat} (h : n ≤ 100000) : n ≤ sizeLine := Evl.sz_of h
theorem lt_size {n : Nat} (h : n < 100000) : n < sizeLine := Evl.sz_lt h
theorem le_size6 {n : Nat} (h : n ≤ 1000000) : n ≤ sizeLine := Nat.le_trans h (by decide)
section
variable {K : PySem.W.Frag} {A : Amb} {X : Cx}
theorem sd_I0 {g : Int → Int → Int} : SdR K A (rI0 fun i j => .int (g i j)) (p2 (gArith g)) := sdr_of fun Fr Hf μ H v w x y d Q s rv rw_ hg q => by
  cases rv <;> cases rw_ <;> simp only [gArith] at hg <;> try cases hg
  exact ⟨_, _, rfl, rfl, q _ .int⟩
theorem sd_div : SdR K A (rI CDivN fun i j => .int (i.fdiv j)) (p2 gDiv) := sdr_of fun Fr Hf μ H v w x y d Q s rv rw_ hg q => by
  cases rv <;> cases rw_ <;> simp only [gDiv] at hg <;> try cases hg
  split at hg
  · next hc =>
    cases hg
    exact ⟨_, _, rfl, rfl, hc, q _ .int⟩
  · cases hg
theorem sd_mod : SdR K A (rI (fun _ j => j ≠ 0) fun i j => .int (i.fmod j)) (p2 gMod) := sdr_of fun Fr Hf μ H v w x y d Q s rv rw_ hg q => by
  cases rv <;> cases rw_ <;> simp only [gMod] at hg <;> try cases hg
  split at hg
  · next hc =>
    cases hg
    exact ⟨_, _, rfl, rfl, hc, q _ .int⟩
  · cases hg
theorem sd_pow : SdR K A (rI CPow fun i j => .int (i ^ j.toNat)) (p2 gPow) := sdr_of fun Fr Hf μ H v w x y d Q s rv rw_ hg q => by
  cases rv <;> cases rw_ <;> simp only [gPow] at hg <;> try cases hg
  split at hg
  · next hc =>
    cases hg
    exact ⟨_, _, rfl, rfl, hc, q _ .int⟩
  · cases hg
def rMulA : R2 := fun x y H Q => rI CMul (fun i j => .int (i * j)) x y H Q ∨ rRep x y H Q
theorem op_mulA : OpR X (binaryOp .Mult) rMulA := op_mul.or op_rep
theorem sd_mul : SdR K A rMulA (p2 gMul) := sdr_new fun Fr Hf μ H v w x y d Q s rv rw_ hg q qn => by
  by_cases hi : ∃ i j, x = .int i ∧ y = .int j
  · obtain ⟨i, j, rfl, rfl⟩ := hi
    cases rv
    cases rw_
    simp only [gMul] at hg
    split at hg
    · next hc =>
      cases hg
      exact .inl ⟨_, _, rfl, rfl, hc, q _ .int⟩
    · cases hg
  · by_cases hy : ∃ k, y = .int k
    · obtain ⟨k, rfl⟩ := hy
      have hg' : (match itemsM μ x with
        | some xs => if (0 ≤ k ∧ k ≤ 100000) ∧ xs.length * k.toNat ≤ 100000 then some (D.lst (List.replicate k.toNat xs).flatten) else none
        | none => none) = some d := by
        cases x <;> first | exact hg | exact absurd ⟨_, _, rfl, rfl⟩ hi
      cases hm : itemsM μ x with
      | none => rw [hm] at hg'; cases hg'
      | some xs =>
        rw [hm] at hg'
        simp only at hg'
        split at hg'
        · next hc =>
          cases hg'
          obtain ⟨a, vs, rfl, ha, rs⟩ := s.itemsM rv hm
          cases rw_
          refine .inr ⟨a, k, vs, rfl, rfl, ha, by omega, by omega, ?_, fun p hp => ?_⟩
          · rw [rs.length]
            exact le_size hc.2
          · exact qn p _ hp (Rep.newL (s.hf_none hp) (rs.replicate _))
        · cases hg'
    · exfalso
      cases y <;> first | exact hy ⟨_, rfl⟩ | (cases x <;> cases hg)
def rAddA (K : PySem.W.Frag) : R2 := fun x y H Q => rI0 (fun i j => .int (i + j)) x y H Q ∨ (fun x y H Q => ∃ i j, x = .str i ∧ y = .str j ∧ i.length + j.length ≤ sizeLine ∧ Q (.str (i ++ j)) H : R2) x y H Q ∨ rCat x y H Q ∨ rCatA K x y H Q
theorem op_addA : OpR X (binaryOp .Add) (rAddA X.K) := op_add.or (op_add_str.or (op_cat.or op_catA))
end
end DL
end

section
set_option maxRecDepth 100000
/-! DL2: comparisons, truth, displays, calls, subscripts. -/
namespace DL
open PySem PySem.Spec PyProof.Rows L2

section
variable {K : PySem.W.Frag} {A : Amb} {X : Cx}
theorem cat_nil_l {Hf H : Hp} {vs us : List V} {xs ys : List D} (r : Reps K Hf vs xs) (r2 : Reps K Hf us ys) (h : vs = []) : xs ++ ys = ys := by
  subst h
  cases r
  rfl
theorem sd_add : SdR K A (rAddA K) (p2 gAdd) := sdr_new fun Fr Hf μ H v w x y d Q s rv rw_ hg q qn => by
  have hM : ∀ xs ys, itemsM μ x = some xs → itemsM μ y = some ys → xs.length + ys.length ≤ 100000 → d = .lst (xs ++ ys) → rAddA K v w H Q := fun xs ys h1 h2 h3 h4 => by
    obtain ⟨a, vs, rfl, ha, rs⟩ := s.itemsM rv h1
    obtain ⟨b, us, rfl, hb, rs2⟩ := s.itemsM rw_ h2
    subst h4
    refine .inr (.inr (.inl ⟨a, b, vs, us, rfl, rfl, ha, hb, ?_, fun p hp => ?_⟩))
    · rw [rs.length, rs2.length]
      exact le_size h3
    · exact qn p _ hp (Rep.newL (s.hf_none hp) (rs.append rs2))
  have hM2 : (match itemsM μ x, itemsM μ y with
    | some xs, some ys => if xs.length + ys.length ≤ 100000 then some (D.lst (xs ++ ys)) else none
    | _, _ => none) = some d → rAddA K v w H Q := fun h => by
    cases h1 : itemsM μ x with
    | none => rw [h1] at h; cases h
    | some xs =>
      cases h2 : itemsM μ y with
      | none => rw [h1, h2] at h; cases h
      | some ys =>
        rw [h1, h2] at h
        simp only at h
        split at h
        · next hc =>
          cases h
          exact hM xs ys h1 h2 hc rfl
        · cases h
  cases x <;> try exact hM2 hg
  case int i =>
    cases y <;> try exact hM2 hg
    case int j =>
      cases rv; cases rw_; cases hg
      exact .inl ⟨_, _, rfl, rfl, q _ .int⟩
  case str i =>
    cases y <;> try exact hM2 hg
    case str j =>
      cases rv; cases rw_
      simp only [gAdd] at hg
      split at hg
      · next hc =>
        cases hg
        exact .inr (.inl ⟨_, _, rfl, rfl, le_size6 hc, q _ .str⟩)
      · cases hg
  case tup xs =>
    cases y <;> try exact hM2 hg
    case tup ys =>
      simp only [gAdd] at hg
      split at hg
      · next hc =>
        cases hg
        obtain ⟨a, vs, rfl, ha, rs⟩ := s.itemsT rv rfl
        obtain ⟨b, us, rfl, hb, rs2⟩ := s.itemsT rw_ rfl
        refine .inr (.inr (.inr ⟨a, b, vs, us, rfl, rfl, .inl (.inl ha), .inl (.inl hb), ?_, fun h => ?_, fun h1 h2 => ?_, fun _ _ p hp => ?_⟩))
        · rw [rs.length, rs2.length]
          exact le_size hc
        · rw [cat_nil_l (H := H) rs rs2 h] at q
          exact q _ rw_
        · subst h2
          cases rs2
          rw [List.append_nil] at q
          exact q _ rv
        · exact qn p _ hp (Rep.newT (s.hf_none hp) (rs.append rs2))
      · cases hg
/-! ### comparisons -/
def gCmpI (f : Int → Int → Bool) : Mu → D → D → Option D := fun _ x y => match x, y with
  | .int i, .int j => some (.bl (f i j))
  | _, _ => none
theorem sd_B0 {g : Int → Int → Bool} : SdR K A (rI0 fun i j => .bl (g i j)) (p2 (gCmpI g)) := sdr_of fun Fr Hf μ H v w x y d Q s rv rw_ hg q => by
  cases rv <;> cases rw_ <;> simp only [gCmpI] at hg <;> try cases hg
  exact ⟨_, _, rfl, rfl, q _ .bl⟩
def intsOf : List D → Option (List Int)
  | [] => some []
  | .int i :: r => match intsOf r with
    | some ns => some (i :: ns)
    | none => none
  | _ => none
theorem intsOf_eq : ∀ {xs : List D} {ns : List Int}, intsOf xs = some ns → xs = ns.map .int
  | [], _, h => by cases h; rfl
  | x :: r, ns, h => by
    cases x <;> simp only [intsOf] at h <;> try cases h
    case int i =>
      cases hr : intsOf r with
      | none => rw [hr] at h; cases h
      | some ms =>
        rw [hr] at h
        cases h
        rw [intsOf_eq hr]
        rfl
@[simp] theorem intsOf_map : ∀ ns : List Int, intsOf (ns.map .int) = some ns
  | [] => rfl
  | n :: r => by
    show (match intsOf (r.map .int) with | some ns => some (n :: ns) | none => none) = _
    rw [intsOf_map r]
def lexLeA (ns ms : List Int) : Bool := Ob.lexAt (fun j => decide (ns.getD j 0 = ms.getD j 0)) (fun j => decide (ns.getD j 0 ≤ ms.getD j 0)) (decide (ns.length ≤ ms.length)) 0 (min ns.length ms.length)
/-- <= of ints, of tuples of ints -/
def gLe : Mu → D → D → Option D := fun _ x y => match x, y with
  | .int i, .int j => some (.bl (decide (i ≤ j)))
  | .tup xs, .tup ys => match intsOf xs, intsOf ys with
    | some ns, some ms => some (.bl (lexLeA ns ms))
    | _, _ => none
  | _, _ => none
def rLeA (K : PySem.W.Frag) : R2 := fun x y H Q => rI0 (fun i j => .bl (decide (i ≤ j))) x y H Q ∨ rLeT K x y H Q
theorem op_leA (hu : X.A.units < cLine) : OpR X (compareOp .LtE) (rLeA X.K) := op_le.or (op_leT hu)
theorem sd_le : SdR K A (rLeA K) (p2 gLe) := sdr_of fun Fr Hf μ H v w x y d Q s rv rw_ hg q => by
  cases x <;> try (cases y <;> cases hg; done)
  case int i =>
    cases y <;> try (cases hg; done)
    case int j =>
      cases hg
      cases rv; cases rw_
      exact .inl ⟨_, _, rfl, rfl, q _ .bl⟩
  case tup xs =>
    cases y <;> try cases hg
    case tup ys =>
      simp only [gLe] at hg
      cases h1 : intsOf xs with
      | none => rw [h1] at hg; cases hg
      | some ns =>
        cases h2 : intsOf ys with
        | none => rw [h1, h2] at hg; cases hg
        | some ms =>
          rw [h1, h2] at hg
          cases hg
          obtain ⟨a, vs, rfl, ha, rs⟩ := s.itemsT rv rfl
          obtain ⟨b, us, rfl, hb, rs2⟩ := s.itemsT rw_ rfl
          rw [intsOf_eq h1] at rs
          rw [intsOf_eq h2] at rs2
          rw [rs.ints_inv] at ha
          rw [rs2.ints_inv] at hb
          exact .inr ⟨a, b, ns, ms, rfl, rfl, .inl (.inl ha), .inl (.inl hb), q _ .bl⟩
/-- is None, is True -/
def isN : D → Bool
  | .non => true
  | _ => false
def gIs (neg : Bool) : Mu → D → D → Option D := fun _ x y => match y with
  | .non => some (.bl (isN x != neg))
  | .bl b => match x with
    | .bl a => some (.bl ((a == b) != neg))
    | _ => none
  | _ => none
theorem non_iff {Hf : Hp} {v : V} {x : D} (r : Rep K Hf v x) : decide (v = .non) = isN x := by
  cases r <;> rfl
def rIsA : R2 := fun x y H Q => rIsN x y H Q ∨ (fun x y H Q => ∃ a b, x = .bl a ∧ y = .bl b ∧ Q (.bl (decide (a = b))) H : R2) x y H Q
def rIsNotA : R2 := fun x y H Q => rNotN x y H Q ∨ (fun x y H Q => ∃ a b, x = .bl a ∧ y = .bl b ∧ Q (.bl (!decide (a = b))) H : R2) x y H Q
theorem op_isA : OpR X (compareOp .Is) rIsA := op_isN1.or op_is_bl
theorem op_isNotA : OpR X (compareOp .IsNot) rIsNotA := op_notN1.or op_isnot_bl
theorem sd_is : SdR K A rIsA (p2 (gIs false)) := sdr_of fun Fr Hf μ H v w x y d Q s rv rw_ hg q => by
  cases y <;> simp only [gIs] at hg <;> try cases hg
  case non =>
    cases rw_
    refine .inl ⟨rfl, q _ ?_⟩
    rw [non_iff rv, Bool.bne_false]
    exact .bl
  case bl b =>
    cases x <;> simp only at hg <;> try cases hg
    cases rv; cases rw_
    refine .inr ⟨_, _, rfl, rfl, q _ ?_⟩
    rw [Bool.bne_false]
    rename_i a
    cases a <;> cases b <;> exact .bl
theorem sd_isNot : SdR K A rIsNotA (p2 (gIs true)) := sdr_of fun Fr Hf μ H v w x y d Q s rv rw_ hg q => by
  cases y <;> simp only [gIs] at hg <;> try cases hg
  case non =>
    cases rw_
    refine .inl ⟨rfl, q _ ?_⟩
    rw [non_iff rv, Bool.bne_true]
    exact .bl
  case bl b =>
    cases x <;> simp only at hg <;> try cases hg
    cases rv; cases rw_
    refine .inr ⟨_, _, rfl, rfl, q _ ?_⟩
    rename_i a
    cases a <;> cases b <;> exact .bl
/-! ### as data of the library -/
mutual
def pyF : D → Option PyData
  | .non => some .none
  | .bl b => some (.bool b)
  | .int i => some (.int i)
  | .str x => some (.str x)
  | .tup xs => match pyFs xs with
    | some ds => some (.tuple ds)
    | none => none
  | .lst xs => match pyFs xs with
    | some ds => some (.list ds)
    | none => none
  | .scr ns => some (.list (ns.map .int))
  | .loc _ => none
def pyFs : List D → Option (List PyData)
  | [] => some []
  | x :: r => match pyF x, pyFs r with
    | some d, some ds => some (d :: ds)
    | _, _ => none
end
def pyOf (μ : Mu) (x : D) : Option PyData := match x with
  | .loc p => match μ p with
    | some (.lst xs) => match pyFs xs with
      | some ds => some (.list ds)
      | none => none
    | _ => none
  | x => pyF x
theorem dp_ints {H : Hp} : ∀ ns : List Int, DpAll K H (ns.map V.int) (ns.map PyData.int)
  | [] => .nil
  | n :: r => .cons (.int n) (dp_ints r)
mutual
theorem pyF_dp {Hf H : Hp} (e : Same Hf H) : ∀ {v : V} {x : D} {d : PyData}, Rep K Hf v x → pyF x = some d → Dp K H v d
  | _, _, _, .non, h => by cases h; exact .non
  | _, _, _, .bl, h => by cases h; exact .bl _
  | _, _, _, .int, h => by cases h; exact .int _
  | _, _, _, .str, h => by cases h; exact .str _
  | _, _, _, .tup ha r, h => by
    simp only [pyF] at h
    split at h
    · next ds hd =>
      cases h
      exact .tup (.inl (.inl (e _ _ ha))) (pyFs_dp e r hd)
    · cases h
  | _, _, _, .lst ha r, h => by
    simp only [pyF] at h
    split at h
    · next ds hd =>
      cases h
      exact .lst (.inl (.inl (e _ _ ha))) (pyFs_dp e r hd)
    · cases h
  | _, _, _, .scr hs, h => by
    cases h
    exact .lst (e.seq hs) (dp_ints _)
  | _, _, _, .loc, h => by cases h
theorem pyFs_dp {Hf H : Hp} (e : Same Hf H) : ∀ {vs : List V} {xs : List D} {ds : List PyData}, Reps K Hf vs xs → pyFs xs = some ds → DpAll K H vs ds
  | _, _, _, .nil, h => by cases h; exact .nil
  | _, _, _, .cons a t, h => by
    simp only [pyFs] at h
    split at h
    · next d ds h1 h2 =>
      cases h
      exact .cons (pyF_dp e a h1) (pyFs_dp e t h2)
    · cases h
end
theorem pyOf_dp {Fr Hf H : Hp} {μ : Mu} {v : V} {x : D} {d : PyData} (s : HR K Fr Hf μ H) (r : Rep K Hf v x) (h : pyOf μ x = some d) : Dp K H v d := by
  cases x <;> try exact pyF_dp s.ex r h
  case loc p =>
    simp only [pyOf] at h
    cases hm : μ p with
    | none => rw [hm] at h; cases h
    | some m =>
      cases m with
      | lst xs =>
        rw [hm] at h
        simp only at h
        split at h
        · next ds hd =>
          cases h
          obtain ⟨a, vs, rfl, ha, rs⟩ := s.itemsM r (show itemsM μ (.loc p) = some xs by simp only [itemsM]; rw [hm])
          exact .lst (.inl (.inl ha)) (pyFs_dp s.ex rs hd)
        · cases h
      | _ => rw [hm] at h; cases h
/-- == -/
def eqB (μ : Mu) (x y : D) : Option Bool := match x, y with
  | .int i, .int j => some (decide (i = j))
  | .str i, .str j => some (decide (i = j))
  | .bl i, .bl j => some (decide (i = j))
  | .non, .non => some true
  | .non, .int _ => some false
  | .int _, .non => some false
  | .non, .bl _ => some false
  | .bl _, .non => some false
  | .non, .str _ => some false
  | .str _, .non => some false
  | .int _, .str _ => some false
  | .str _, .int _ => some false
  | .bl _, .str _ => some false
  | .str _, .bl _ => some false
  | x, y => match pyOf μ x, pyOf μ y with
    | some d, some e => if SeqAt.shaped d = true ∧ SeqAt.shaped e = true then some (PyData.eqv d e) else none
    | _, _ => none
def gEq (neg : Bool) : Mu → D → D → Option D := fun μ x y => match eqB μ x y with
  | some b => some (.bl (b != neg))
  | none => none
def rEqA (K : PySem.W.Frag) : R2 := fun x y H Q => rEq x y H Q ∨ rEqD K x y H Q
def rNeA (K : PySem.W.Frag) : R2 := fun x y H Q => rNe x y H Q ∨ rNeD K x y H Q
theorem op_eqA (hu : X.A.units + 64 < cLine) : OpR X (compareOp .Eq) (rEqA X.K) := op_eq.or (op_eqD hu)
theorem op_neA (hu : X.A.units + 64 < cLine) : OpR X (compareOp .NotEq) (rNeA X.K) := op_ne.or (op_neD hu)
theorem eqB_ok {Fr Hf H : Hp} {μ : Mu} {v w : V} {x y : D} {b : Bool} (s : HR K Fr Hf μ H) (rv : Rep K Hf v x) (rw_ : Rep K Hf w y) (h : eqB μ x y = some b) :
    (scal v w = true ∧ decide (v = w) = b) ∨ ∃ d e, Dp K H v d ∧ Dp K H w e ∧ SeqAt.shaped d = true ∧ SeqAt.shaped e = true ∧ PyData.eqv d e = b := by
  have gen : (match pyOf μ x, pyOf μ y with
    | some d, some e => if SeqAt.shaped d = true ∧ SeqAt.shaped e = true then some (PyData.eqv d e) else none
    | _, _ => none) = some b → ∃ d e, Dp K H v d ∧ Dp K H w e ∧ SeqAt.shaped d = true ∧ SeqAt.shaped e = true ∧ PyData.eqv d e = b := fun h => by
    cases h1 : pyOf μ x with
    | none => rw [h1] at h; cases h
    | some d =>
      cases h2 : pyOf μ y with
      | none => rw [h1, h2] at h; cases h
      | some e =>
        rw [h1, h2] at h
        simp only at h
        split at h
        · next hc =>
          cases h
          exact ⟨d, e, pyOf_dp s rv h1, pyOf_dp s rw_ h2, hc.1, hc.2, rfl⟩
        · cases h
  cases x <;> cases y <;> first
    | exact .inr (gen h)
    | (cases rv; cases rw_; cases h; refine .inl ⟨rfl, ?_⟩; first | rfl | (simp only [V.int.injEq, V.str.injEq, V.bl.injEq]; done))
theorem sd_eq : SdR K A (rEqA K) (p2 (gEq false)) := sdr_of fun Fr Hf μ H v w x y d Q s rv rw_ hg q => by
  unfold gEq at hg
  cases hb : eqB μ x y with
  | none => rw [hb] at hg; cases hg
  | some b =>
    rw [hb] at hg
    cases hg
    rw [Bool.bne_false] at q
    rcases eqB_ok s rv rw_ hb with ⟨h1, h2⟩ | ⟨d, e, h1, h2, h3, h4, h5⟩
    · refine .inl ⟨h1, q _ ?_⟩
      rw [h2]
      exact .bl
    · refine .inr ⟨d, e, h1, h2, h3, h4, q _ ?_⟩
      rw [h5]
      exact .bl
theorem sd_ne : SdR K A (rNeA K) (p2 (gEq true)) := sdr_of fun Fr Hf μ H v w x y d Q s rv rw_ hg q => by
  unfold gEq at hg
  cases hb : eqB μ x y with
  | none => rw [hb] at hg; cases hg
  | some b =>
    rw [hb] at hg
    cases hg
    rw [Bool.bne_true] at q
    rcases eqB_ok s rv rw_ hb with ⟨h1, h2⟩ | ⟨d, e, h1, h2, h3, h4, h5⟩
    · refine .inl ⟨h1, q _ ?_⟩
      rw [h2]
      exact .bl
    · refine .inr ⟨d, e, h1, h2, h3, h4, q _ ?_⟩
      rw [h5]
      exact .bl
/-! ### in -/
def flatD : D → Bool
  | .non => true
  | .bl _ => true
  | .int _ => true
  | .str _ => true
  | _ => false
def eqFl : D → D → Bool
  | .non, .non => true
  | .bl a, .bl b => a == b
  | .bl a, .int b => (if a then 1 else 0) == b
  | .int a, .bl b => a == (if b then 1 else 0)
  | .int a, .int b => a == b
  | .str a, .str b => a == b
  | _, _ => false
theorem flat_rep {Hf : Hp} {v : V} {x : D} (r : Rep K Hf v x) (h : flatD x = true) : flatV v = true := by
  cases r <;> first | rfl | cases h
theorem flats_rep {Hf : Hp} : ∀ {vs : List V} {xs : List D}, Reps K Hf vs xs → xs.all flatD = true → vs.all flatV = true
  | _, _, .nil, _ => rfl
  | _, _, .cons a t, h => by
    rw [List.all_cons, Bool.and_eq_true] at h ⊢
    exact ⟨flat_rep a h.1, flats_rep t h.2⟩
theorem eqFl_rep {Hf : Hp} {v w : V} {x y : D} (r : Rep K Hf v x) (r2 : Rep K Hf w y) (h : flatD x = true) (h2 : flatD y = true) : eqV v w = eqFl x y := by
  cases r <;> first | (cases h; done) | skip
  all_goals (cases r2 <;> first | rfl | cases h2)
theorem anyFl_rep {Hf : Hp} {w : V} {y : D} (r2 : Rep K Hf w y) (h2 : flatD y = true) : ∀ {vs : List V} {xs : List D}, Reps K Hf vs xs → xs.all flatD = true → inV w vs = xs.any fun z => eqFl z y
  | _, _, .nil, _ => rfl
  | _, _, .cons (v := v) (vs := vs) (x := x) (xs := xs) a t, h => by
    rw [List.all_cons, Bool.and_eq_true] at h
    show (eqV v w || inV w vs) = _
    rw [eqFl_rep a r2 h.1 h2, anyFl_rep r2 h2 t h.2]
    rfl
def inB (μ : Mu) (x y : D) : Option Bool := match x, y with
  | .str a, .str z => if a = ⟨#[a.cps.getD 0 0]⟩ then some (decide (a.cps.getD 0 0 ∈ z.cps.toList)) else none
  | x, y => match items μ y with
    | some xs => if flatD x = true ∧ xs.all flatD = true then some (xs.any fun z => eqFl z x) else
      match pyOf μ x, pyOf μ y with
      | some d, some (.list ds) => if SeqAt.shaped d = true ∧ SeqAt.shaped (.list ds) = true then some (ds.any fun z => PyData.eqv z d) else none
      | _, _ => none
    | none => none
def gIn (neg : Bool) : Mu → D → D → Option D := fun μ x y => match inB μ x y with
  | some b => some (.bl (b != neg))
  | none => none
theorem inB_ok {Fr Hf H : Hp} {μ : Mu} {v w : V} {x y : D} {b : Bool} (s : HR K Fr Hf μ H) (rv : Rep K Hf v x) (rw_ : Rep K Hf w y) (h : inB μ x y = some b) :
    (∃ (c : Nat) (z : Str), v = .str ⟨#[c]⟩ ∧ w = .str z ∧ decide (c ∈ z.cps.toList) = b) ∨
    (∃ p xs, w = .ref p ∧ (SqL K H p xs ∨ SqT K H p xs) ∧ flatV v = true ∧ xs.all flatV = true ∧ inV v xs = b) ∨
    ∃ d ds, Dp K H v d ∧ Dp K H w (.list ds) ∧ SeqAt.shaped d = true ∧ SeqAt.shaped (.list ds) = true ∧ (ds.any fun z => PyData.eqv z d) = b := by
  have gen : (match items μ y with
    | some xs => if flatD x = true ∧ xs.all flatD = true then some (xs.any fun z => eqFl z x) else
      match pyOf μ x, pyOf μ y with
      | some d, some (.list ds) => if SeqAt.shaped d = true ∧ SeqAt.shaped (.list ds) = true then some (ds.any fun z => PyData.eqv z d) else none
      | _, _ => none
    | none => none) = some b → (∃ p xs, w = .ref p ∧ (SqL K H p xs ∨ SqT K H p xs) ∧ flatV v = true ∧ xs.all flatV = true ∧ inV v xs = b) ∨
    ∃ d ds, Dp K H v d ∧ Dp K H w (.list ds) ∧ SeqAt.shaped d = true ∧ SeqAt.shaped (.list ds) = true ∧ (ds.any fun z => PyData.eqv z d) = b := fun h => by
    cases h1 : items μ y with
    | none => rw [h1] at h; cases h
    | some xs =>
      rw [h1] at h
      simp only at h
      split at h
      · next hc =>
        cases h
        obtain ⟨a, vs, rfl, ha, rs⟩ := s.items rw_ h1
        exact .inl ⟨a, vs, rfl, ha, flat_rep rv hc.1, flats_rep rs hc.2, anyFl_rep rv hc.1 rs hc.2⟩
      · split at h
        · next d ds h2 h3 =>
          split at h
          · next hc =>
            cases h
            exact .inr ⟨d, ds, pyOf_dp s rv h2, pyOf_dp s rw_ h3, hc.1, hc.2, rfl⟩
          · cases h
        · cases h
  by_cases hs : ∃ a z, x = .str a ∧ y = .str z
  · obtain ⟨a, z, rfl, rfl⟩ := hs
    cases rv; cases rw_
    simp only [inB] at h
    split at h
    · next hc =>
      cases h
      exact .inl ⟨_, z, congrArg V.str hc, rfl, rfl⟩
    · cases h
  · refine .inr (gen ?_)
    cases x <;> first | exact h | skip
    cases y <;> first | exact h | exact absurd ⟨_, _, rfl, rfl⟩ hs
def rInA (K : PySem.W.Frag) : R2 := fun x y H Q => (fun x y H Q => ∃ (c : Nat) (z : Str), x = .str ⟨#[c]⟩ ∧ y = .str z ∧ Q (.bl (decide (c ∈ z.cps.toList))) H : R2) x y H Q ∨ rIn K false x y H Q ∨ rInD K x y H Q
def rNotInA (K : PySem.W.Frag) : R2 := fun x y H Q => (fun x y H Q => ∃ (c : Nat) (z : Str), x = .str ⟨#[c]⟩ ∧ y = .str z ∧ Q (.bl (!decide (c ∈ z.cps.toList))) H : R2) x y H Q ∨ rIn K true x y H Q ∨ rNotInD K x y H Q
theorem op_inA (hu : X.A.units + 65 < cLine) : OpR X (compareOp .In) (rInA X.K) := op_in_sign.or (op_in_seq.or (op_inD hu))
theorem op_notInA (hu : X.A.units + 65 < cLine) : OpR X (compareOp .NotIn) (rNotInA X.K) := op_notIn_sign.or (op_notIn_seq.or (op_notInD hu))
theorem sd_in : SdR K A (rInA K) (p2 (gIn false)) := sdr_of fun Fr Hf μ H v w x y d Q s rv rw_ hg q => by
  unfold gIn at hg
  cases hb : inB μ x y with
  | none => rw [hb] at hg; cases hg
  | some b =>
    rw [hb] at hg
    cases hg
    rw [Bool.bne_false] at q
    rcases inB_ok s rv rw_ hb with ⟨c, z, h1, h2, h3⟩ | ⟨p, xs, h1, h2, h3, h4, h5⟩ | ⟨d, ds, h1, h2, h3, h4, h5⟩
    · refine .inl ⟨c, z, h1, h2, q _ ?_⟩
      rw [h3]
      exact .bl
    · refine .inr (.inl ⟨p, xs, h1, h2, h3, h4, q _ ?_⟩)
      rw [if_neg Bool.false_ne_true, h5]
      exact .bl
    · refine .inr (.inr ⟨d, ds, h1, h2, h3, h4, q _ ?_⟩)
      rw [h5]
      exact .bl
theorem sd_notIn : SdR K A (rNotInA K) (p2 (gIn true)) := sdr_of fun Fr Hf μ H v w x y d Q s rv rw_ hg q => by
  unfold gIn at hg
  cases hb : inB μ x y with
  | none => rw [hb] at hg; cases hg
  | some b =>
    rw [hb] at hg
    cases hg
    rw [Bool.bne_true] at q
    rcases inB_ok s rv rw_ hb with ⟨c, z, h1, h2, h3⟩ | ⟨p, xs, h1, h2, h3, h4, h5⟩ | ⟨d, ds, h1, h2, h3, h4, h5⟩
    · refine .inl ⟨c, z, h1, h2, q _ ?_⟩
      rw [h3]
      exact .bl
    · refine .inr (.inl ⟨p, xs, h1, h2, h3, h4, q _ ?_⟩)
      rw [if_pos rfl, h5]
      exact .bl
    · refine .inr (.inr ⟨d, ds, h1, h2, h3, h4, q _ ?_⟩)
      rw [h5]
      exact .bl
end
end DL
end

section
set_option maxRecDepth 100000
/-! DL3: truth, displays, calls, subscripts, fields. -/
namespace DL
open PySem PySem.Spec PyProof.Rows L2

section
variable {X : Cx} {A : Amb} {e a b c : Expr} {pos : Pos} {rest es : List Expr}
/-! ### truth -/
def dAndV (da db : DE) : DE := fun ρ μ k => da ρ μ fun x μ1 => match x with
  | .bl c => if c = true then db ρ μ1 k else k (.bl false) μ1
  | _ => False
def dOrV (da db : DE) : DE := fun ρ μ k => da ρ μ fun x μ1 => match x with
  | .bl c => if c = true then k (.bl true) μ1 else db ρ μ1 k
  | _ => False
def dNotV (da : DE) : DE := fun ρ μ k => da ρ μ fun x μ1 => match x with
  | .bl c => k (.bl (!c)) μ1
  | _ => False
def eAnd (a b : EvE) (ρ : Ro) (μ : Mu) : Option D := (a ρ μ).bind fun x => match x with
  | .bl c => if c = true then b ρ μ else some (.bl false)
  | _ => none
def eOr (a b : EvE) (ρ : Ro) (μ : Mu) : Option D := (a ρ μ).bind fun x => match x with
  | .bl c => if c = true then some (.bl true) else b ρ μ
  | _ => none
def eNot (a : EvE) (ρ : Ro) (μ : Mu) : Option D := (a ρ μ).bind fun x => match x with
  | .bl c => some (.bl (!c))
  | _ => none
theorem pd_one {op} {d : DE} (h : PD X A a d) : PD X A (.BoolOp op [a] pos) d := pe_one h
theorem pd_and {da db : DE} (ha : PD X A a da) (hb : PD X A (.BoolOp .And (b :: rest) pos) db) : PD X A (.BoolOp .And (a :: b :: rest) pos) (dAndV da db) :=
  PE.imp (pe_and ha hb) fun σ H Q q => by
    obtain ⟨Fr, Hf, μ, ρ, k, s, sl, hd, kk⟩ := q
    refine ⟨Fr, Hf, μ, ρ, _, s, sl, hd, fun Hf1 μ1 H1 v x e1 s1 r1 h1 => ?_⟩
    cases r1 <;> first | exact h1.elim | skip
    refine ⟨_, rfl, ?_⟩
    dsimp only at h1
    split at h1
    · next hc =>
      rw [if_pos hc]
      exact ⟨Fr, Hf1, μ1, ρ, k, s1, sl.mono e1, h1, kk.go e1⟩
    · next hc =>
      rw [if_neg hc]
      exact kk _ _ _ _ _ e1 s1 .bl h1
theorem pd_or {da db : DE} (ha : PD X A a da) (hb : PD X A (.BoolOp .Or (b :: rest) pos) db) : PD X A (.BoolOp .Or (a :: b :: rest) pos) (dOrV da db) :=
  PE.imp (pe_or ha hb) fun σ H Q q => by
    obtain ⟨Fr, Hf, μ, ρ, k, s, sl, hd, kk⟩ := q
    refine ⟨Fr, Hf, μ, ρ, _, s, sl, hd, fun Hf1 μ1 H1 v x e1 s1 r1 h1 => ?_⟩
    cases r1 <;> first | exact h1.elim | skip
    refine ⟨_, rfl, ?_⟩
    dsimp only at h1
    split at h1
    · next hc =>
      rw [if_pos hc]
      exact kk _ _ _ _ _ e1 s1 .bl h1
    · next hc =>
      rw [if_neg hc]
      exact ⟨Fr, Hf1, μ1, ρ, k, s1, sl.mono e1, h1, kk.go e1⟩
theorem pd_not {da : DE} (ha : PD X A a da) : PD X A (.UnaryOp .Not a pos) (dNotV da) :=
  PE.imp (pe_not ha) fun σ H Q q => by
    obtain ⟨Fr, Hf, μ, ρ, k, s, sl, hd, kk⟩ := q
    refine ⟨Fr, Hf, μ, ρ, _, s, sl, hd, fun Hf1 μ1 H1 v x e1 s1 r1 h1 => ?_⟩
    cases r1 <;> first | exact h1.elim | skip
    exact ⟨_, rfl, kk _ _ _ _ _ e1 s1 .bl h1⟩
theorem pv_and {ea eb : EvE} (ha : PV X A a ea) (hb : PV X A (.BoolOp .And (b :: rest) pos) eb) : PV X A (.BoolOp .And (a :: b :: rest) pos) (eAnd ea eb) :=
  (pd_and ha hb).imp fun ρ μ k h => by
    obtain ⟨d, hd, hk⟩ := h
    unfold eAnd at hd
    cases h1 : ea ρ μ with
    | none => rw [h1] at hd; cases hd
    | some x =>
      rw [h1] at hd
      refine ⟨x, h1, ?_⟩
      cases x <;> simp only [Option.bind_some] at hd ⊢ <;> try (cases hd; done)
      split at hd
      · next hc =>
        rw [if_pos hc]
        exact ⟨d, hd, hk⟩
      · next hc =>
        rw [if_neg hc]
        cases hd
        exact hk
theorem pv_or {ea eb : EvE} (ha : PV X A a ea) (hb : PV X A (.BoolOp .Or (b :: rest) pos) eb) : PV X A (.BoolOp .Or (a :: b :: rest) pos) (eOr ea eb) :=
  (pd_or ha hb).imp fun ρ μ k h => by
    obtain ⟨d, hd, hk⟩ := h
    unfold eOr at hd
    cases h1 : ea ρ μ with
    | none => rw [h1] at hd; cases hd
    | some x =>
      rw [h1] at hd
      refine ⟨x, h1, ?_⟩
      cases x <;> simp only [Option.bind_some] at hd ⊢ <;> try (cases hd; done)
      split at hd
      · next hc =>
        rw [if_pos hc]
        cases hd
        exact hk
      · next hc =>
        rw [if_neg hc]
        exact ⟨d, hd, hk⟩
theorem pv_one {op} {ev : EvE} (h : PV X A a ev) : PV X A (.BoolOp op [a] pos) ev := pe_one h
theorem pv_not {ea : EvE} (ha : PV X A a ea) : PV X A (.UnaryOp .Not a pos) (eNot ea) :=
  (pd_not ha).imp fun ρ μ k h => by
    obtain ⟨d, hd, hk⟩ := h
    unfold eNot at hd
    cases h1 : ea ρ μ with
    | none => rw [h1] at hd; cases hd
    | some x =>
      rw [h1] at hd
      refine ⟨x, h1, ?_⟩
      cases x <;> simp only [Option.bind_some] at hd ⊢ <;> try (cases hd; done)
      cases hd
      exact hk
/-! ### tests: a bool's value -/
def dTst (d : DE) : DT := fun ρ μ k => d ρ μ fun x μ1 => match x with
  | .bl b => k b μ1
  | _ => False
def eTst (a : EvE) (ρ : Ro) (μ : Mu) : Option Bool := (a ρ μ).bind fun x => match x with
  | .bl c => some c
  | _ => none
theorem tst_ok {K : PySem.W.Frag} {d : DE} {σ : Sg} {H : Hp} {Q : Bool → Hp → Prop} (q : tDT K A (dTst d) σ H Q) : tD K A d σ H fun x H1 => ∃ c, x = .bl c ∧ Q c H1 := by
  obtain ⟨Fr, Hf, μ, ρ, k, s, sl, hd, kk⟩ := q
  refine ⟨Fr, Hf, μ, ρ, _, s, sl, hd, fun Hf1 μ1 H1 v x e1 s1 r1 h1 => ?_⟩
  cases r1 <;> first | exact h1.elim | skip
  exact ⟨_, rfl, kk _ _ _ _ e1 s1 h1⟩
theorem eTst_ok {ea : EvE} : ∀ ρ μ k, dPT (eTst ea) ρ μ k → dTst (dP ea) ρ μ k := fun ρ μ k h => by
  obtain ⟨d, hd, hk⟩ := h
  unfold eTst at hd
  cases h1 : ea ρ μ with
  | none => rw [h1] at hd; cases hd
  | some x =>
    rw [h1] at hd
    refine ⟨x, h1, ?_⟩
    cases x <;> simp only [Option.bind_some] at hd ⊢ <;> try (cases hd; done)
    cases hd
    exact hk
/-- a name, a call, a subscript, a bool operation ..: he by fun _ => rfl -/
theorem pt_valD {d : DE} (h : PD X A e d) (he : ∀ whole, isTrue e X.env whole = (do let v ← whole; standAt e.pos; holding [v] (truthy v)) := by intro _; rfl) : PTD X A e (dTst d) := PT.imp (pt_val h he) fun _ _ _ q => tst_ok q
theorem pt_valV {ea : EvE} (h : PV X A e ea) (he : ∀ whole, isTrue e X.env whole = (do let v ← whole; standAt e.pos; holding [v] (truthy v)) := by intro _; rfl) : PTV X A e (eTst ea) := (pt_valD h he).imp eTst_ok
theorem pt_cmpD {op : CmpOp} {r : R2} {f : DR} {da db : DE} (ho : OpR X (compareOp op) r) (hs : SdR X.K A r f) (ha : PD X A a da) (hb : PD X A b db) (hm : behindInMarks op b = false) : PTD X A (.Compare a [op] [b] pos) (dTst (dOp f da db)) :=
  PT.imp (pt_cmpR ho ha hb hm) fun σ H Q q => by
    have q1 := tst_ok q
    exact d_two (r := r) (f := f) hs q1
theorem pt_cmpV {op : CmpOp} {r : R2} {g : Mu → D → D → Option D} {ea eb : EvE} (ho : OpR X (compareOp op) r) (hs : SdR X.K A r (p2 g)) (ha : PV X A a ea) (hb : PV X A b eb) (hm : behindInMarks op b = false) : PTV X A (.Compare a [op] [b] pos) (eTst (e2 g ea eb)) :=
  (pt_cmpD ho hs ha hb hm).imp fun ρ μ k h => by
    have h1 := eTst_ok ρ μ k h
    exact dP_op ρ μ _ h1
/-- a op1 b op2 c, of pure ones -/
def eChain (g g' : Mu → D → D → Option D) (a b c : EvE) (ρ : Ro) (μ : Mu) : Option D := (a ρ μ).bind fun x => (b ρ μ).bind fun y => (g μ x y).bind fun z => match z with
  | .bl k => if k = true then (c ρ μ).bind fun w => g' μ y w else some (.bl false)
  | _ => none
theorem chain_ok {r r' : R2} {g g' : Mu → D → D → Option D} {K : PySem.W.Frag} {ea eb ec : EvE} (hs : SdR K A r (p2 g)) (hs' : SdR K A r' (p2 g')) {σ : Sg} {H : Hp} {Q : VK} (q : tD K A (dP (eChain g g' ea eb ec)) σ H Q) : tChain r r' (tD K A (dP ea)) (tD K A (dP eb)) (tD K A (dP ec)) σ H Q := by
  obtain ⟨Fr, Hf, μ, ρ, k, s, sl, ⟨d, hd, hk⟩, kk⟩ := q
  unfold eChain at hd
  cases h1 : ea ρ μ with
  | none => rw [h1] at hd; cases hd
  | some x =>
    cases h2 : eb ρ μ with
    | none => rw [h1, h2] at hd; cases hd
    | some y =>
      rw [h1, h2] at hd
      simp only [Option.bind_some] at hd
      cases h3 : g μ x y with
      | none => rw [h3] at hd; cases hd
      | some z =>
        rw [h3] at hd
        simp only [Option.bind_some] at hd
        refine ⟨Fr, Hf, μ, ρ, fun x' μ' => x' = x ∧ μ' = μ, s, sl, ⟨x, h1, rfl, rfl⟩, fun Hf1 μ1 H1 v x' e1 s1 r1 q1 => ?_⟩
        obtain ⟨rfl, rfl⟩ := q1
        refine ⟨Fr, Hf1, μ1, ρ, fun x' μ' => x' = y ∧ μ' = μ1, s1, sl.mono e1, ⟨y, h2, rfl, rfl⟩, fun Hf2 μ2 H2 w y' e2 s2 r2 q2 => ?_⟩
        obtain ⟨rfl, rfl⟩ := q2
        refine hs Fr Hf2 μ2 H2 v w _ _ (fun z' μ' => z' = z ∧ μ' = μ2) _ s2 (r1.mono e2) r2 ⟨z, h3, rfl, rfl⟩ fun Hf3 μ3 H3 u z' e3 s3 r3 q3 => ?_
        obtain ⟨rfl, rfl⟩ := q3
        cases r3 <;> simp only at hd <;> try (cases hd; done)
        refine ⟨_, rfl, ?_⟩
        split at hd
        · next hc =>
          rw [if_pos hc]
          cases h4 : ec ρ μ3 with
          | none => rw [h4] at hd; cases hd
          | some t =>
            rw [h4] at hd
            refine ⟨Fr, Hf3, μ3, ρ, fun x' μ' => x' = t ∧ μ' = μ3, s3, sl.mono (e1.trans (e2.trans e3)), ⟨t, h4, rfl, rfl⟩, fun Hf4 μ4 H4 u4 t' e4 s4 r4 q4 => ?_⟩
            obtain ⟨rfl, rfl⟩ := q4
            exact hs' Fr Hf4 μ4 H4 w u4 _ _ k Q s4 (r2.mono (e3.trans e4)) r4 ⟨d, hd, hk⟩ (kk.go (e1.trans (e2.trans (e3.trans e4))))
        · next hc =>
          rw [if_neg hc]
          cases hd
          exact kk _ _ _ _ _ (e1.trans (e2.trans e3)) s3 .bl hk
theorem pv_chain {op op' : CmpOp} {r r' : R2} {g g' : Mu → D → D → Option D} {ea eb ec : EvE} (ho : OpR X (compareOp op) r) (hs : SdR X.K A r (p2 g)) (ho' : OpR X (compareOp op') r') (hs' : SdR X.K A r' (p2 g')) (ha : PV X A a ea) (hb : PV X A b eb) (hc : PV X A c ec)
    (hm : lastMarks [op, op'] [b, c] = false := by with_unfolding_all rfl) : PV X A (.Compare a [op, op'] [b, c] pos) (eChain g g' ea eb ec) := PE.imp (pe_chain ho ho' ha hb hc hm) fun _ _ _ q => chain_ok hs hs' q
theorem pt_chainV {op op' : CmpOp} {r r' : R2} {g g' : Mu → D → D → Option D} {ea eb ec : EvE} (ho : OpR X (compareOp op) r) (hs : SdR X.K A r (p2 g)) (ho' : OpR X (compareOp op') r') (hs' : SdR X.K A r' (p2 g')) (ha : PV X A a ea) (hb : PV X A b eb) (hc : PV X A c ec)
    (hm : lastMarks [op, op'] [b, c] = false := by with_unfolding_all rfl) : PTV X A (.Compare a [op, op'] [b, c] pos) (eTst (eChain g g' ea eb ec)) := PT.imp (pt_chain ho ho' ha hb hc hm) fun σ H Q q => by
  have q1 : tDT X.K A (dTst (dP (eChain g g' ea eb ec))) σ H Q := by
    obtain ⟨Fr, Hf, μ, ρ, k, s, sl, hd, kk⟩ := q
    exact ⟨Fr, Hf, μ, ρ, k, s, sl, eTst_ok _ _ _ hd, kk⟩
  exact chain_ok hs hs' (tst_ok q1)
/-! ### and, or, not as tests -/
def dAndT (t u : DT) : DT := fun ρ μ k => t ρ μ fun c μ1 => if c = true then u ρ μ1 k else k false μ1
def dOrT (t u : DT) : DT := fun ρ μ k => t ρ μ fun c μ1 => if c = true then k true μ1 else u ρ μ1 k
def dNotT (t : DT) : DT := fun ρ μ k => t ρ μ fun c μ1 => k (!c) μ1
def eAndT (a b : EvT) (ρ : Ro) (μ : Mu) : Option Bool := (a ρ μ).bind fun c => if c = true then b ρ μ else some false
def eOrT (a b : EvT) (ρ : Ro) (μ : Mu) : Option Bool := (a ρ μ).bind fun c => if c = true then some true else b ρ μ
def eNotT (a : EvT) (ρ : Ro) (μ : Mu) : Option Bool := (a ρ μ).bind fun c => some (!c)
variable {ta tb : DT} {ua ub : EvT}
theorem pw_and1D (ha : PTD X A a ta) : PWD X A (.BoolOp .And [a] pos) ta := pw_and1 ha
theorem pw_or1D (ha : PTD X A a ta) : PWD X A (.BoolOp .Or [a] pos) ta := pw_or1 ha
theorem pw_andD (ha : PTD X A a ta) (hb : PWD X A (.BoolOp .And (b :: rest) pos) tb) : PWD X A (.BoolOp .And (a :: b :: rest) pos) (dAndT ta tb) :=
  PW.imp (pw_and ha hb) fun σ H Q q => by
    obtain ⟨Fr, Hf, μ, ρ, k, s, sl, hd, kk⟩ := q
    refine ⟨Fr, Hf, μ, ρ, _, s, sl, hd, fun Hf1 μ1 H1 c e1 s1 h1 => ?_⟩
    split at h1
    · next hc =>
      rw [if_pos hc]
      exact ⟨Fr, Hf1, μ1, ρ, k, s1, sl.mono e1, h1, kk.go e1⟩
    · next hc =>
      rw [if_neg hc]
      exact kk _ _ _ _ e1 s1 h1
theorem pw_orD (ha : PTD X A a ta) (hb : PWD X A (.BoolOp .Or (b :: rest) pos) tb) : PWD X A (.BoolOp .Or (a :: b :: rest) pos) (dOrT ta tb) :=
  PW.imp (pw_or ha hb) fun σ H Q q => by
    obtain ⟨Fr, Hf, μ, ρ, k, s, sl, hd, kk⟩ := q
    refine ⟨Fr, Hf, μ, ρ, _, s, sl, hd, fun Hf1 μ1 H1 c e1 s1 h1 => ?_⟩
    split at h1
    · next hc =>
      rw [if_pos hc]
      exact kk _ _ _ _ e1 s1 h1
    · next hc =>
      rw [if_neg hc]
      exact ⟨Fr, Hf1, μ1, ρ, k, s1, sl.mono e1, h1, kk.go e1⟩
theorem pw_pt (h : PWD X A e ta) : PTD X A e ta := PW.pt h
theorem pt_notD (ha : PTD X A a ta) : PTD X A (.UnaryOp .Not a pos) (dNotT ta) := PT.imp (pt_not ha) fun σ H Q q => by
  obtain ⟨Fr, Hf, μ, ρ, k, s, sl, hd, kk⟩ := q
  exact ⟨Fr, Hf, μ, ρ, _, s, sl, hd, fun Hf1 μ1 H1 c e1 s1 h1 => kk _ _ _ _ e1 s1 h1⟩
theorem pw_and1V (ha : PTV X A a ua) : PWV X A (.BoolOp .And [a] pos) ua := pw_and1 ha
theorem pw_or1V (ha : PTV X A a ua) : PWV X A (.BoolOp .Or [a] pos) ua := pw_or1 ha
theorem pw_andV (ha : PTV X A a ua) (hb : PWV X A (.BoolOp .And (b :: rest) pos) ub) : PWV X A (.BoolOp .And (a :: b :: rest) pos) (eAndT ua ub) :=
  (pw_andD ha hb).imp fun ρ μ k h => by
    obtain ⟨d, hd, hk⟩ := h
    unfold eAndT at hd
    cases h1 : ua ρ μ with
    | none => rw [h1] at hd; cases hd
    | some c =>
      rw [h1] at hd
      refine ⟨c, h1, ?_⟩
      simp only [Option.bind_some] at hd
      split at hd
      · next hc =>
        rw [if_pos hc]
        exact ⟨d, hd, hk⟩
      · next hc =>
        rw [if_neg hc]
        cases hd
        exact hk
theorem pw_orV (ha : PTV X A a ua) (hb : PWV X A (.BoolOp .Or (b :: rest) pos) ub) : PWV X A (.BoolOp .Or (a :: b :: rest) pos) (eOrT ua ub) :=
  (pw_orD ha hb).imp fun ρ μ k h => by
    obtain ⟨d, hd, hk⟩ := h
    unfold eOrT at hd
    cases h1 : ua ρ μ with
    | none => rw [h1] at hd; cases hd
    | some c =>
      rw [h1] at hd
      refine ⟨c, h1, ?_⟩
      simp only [Option.bind_some] at hd
      split at hd
      · next hc =>
        rw [if_pos hc]
        cases hd
        exact hk
      · next hc =>
        rw [if_neg hc]
        exact ⟨d, hd, hk⟩
theorem pw_ptV (h : PWV X A e ua) : PTV X A e ua := PW.pt h
theorem pt_notV (ha : PTV X A a ua) : PTV X A (.UnaryOp .Not a pos) (eNotT ua) := (pt_notD ha).imp fun ρ μ k h => by
  obtain ⟨d, hd, hk⟩ := h
  unfold eNotT at hd
  cases h1 : ua ρ μ with
  | none => rw [h1] at hd; cases hd
  | some c =>
    rw [h1] at hd
    cases hd
    exact ⟨c, h1, hk⟩
/-! ### a if t else b -/
def dIf (t : DT) (da db : DE) : DE := fun ρ μ k => t ρ μ fun c μ1 => if c = true then da ρ μ1 k else db ρ μ1 k
def eIf (t : EvT) (a b : EvE) (ρ : Ro) (μ : Mu) : Option D := (t ρ μ).bind fun c => if c = true then a ρ μ else b ρ μ
theorem pd_if {da db : DE} (hc : PTD X A c ta) (ha : PD X A a da) (hb : PD X A b db) : PD X A (.IfExp c a b pos) (dIf ta da db) := PE.imp (pe_ifExp hc ha hb) fun σ H Q q => by
  obtain ⟨Fr, Hf, μ, ρ, k, s, sl, hd, kk⟩ := q
  refine ⟨Fr, Hf, μ, ρ, _, s, sl, hd, fun Hf1 μ1 H1 c e1 s1 h1 => ?_⟩
  split at h1
  · next hc =>
    rw [if_pos hc]
    exact ⟨Fr, Hf1, μ1, ρ, k, s1, sl.mono e1, h1, kk.go e1⟩
  · next hc =>
    rw [if_neg hc]
    exact ⟨Fr, Hf1, μ1, ρ, k, s1, sl.mono e1, h1, kk.go e1⟩
theorem pv_if {ea eb : EvE} (hc : PTV X A c ua) (ha : PV X A a ea) (hb : PV X A b eb) : PV X A (.IfExp c a b pos) (eIf ua ea eb) := (pd_if hc ha hb).imp fun ρ μ k h => by
  obtain ⟨d, hd, hk⟩ := h
  unfold eIf at hd
  cases h1 : ua ρ μ with
  | none => rw [h1] at hd; cases hd
  | some c =>
    rw [h1] at hd
    refine ⟨c, h1, ?_⟩
    simp only [Option.bind_some] at hd
    split at hd
    · next hc =>
      rw [if_pos hc]
      exact ⟨d, hd, hk⟩
    · next hc =>
      rw [if_neg hc]
      exact ⟨d, hd, hk⟩
/-! ### arguments -/
def dNil : DA := fun _ μ k => k [] μ
def dCons (d : DE) (t : DA) : DA := fun ρ μ k => d ρ μ fun x μ1 => t ρ μ1 fun xs μ2 => k (x :: xs) μ2
def dStar (d : DE) (t : DA) : DA := fun ρ μ k => d ρ μ fun x μ1 => ∃ ys, items μ1 x = some ys ∧ t ρ μ1 fun xs μ2 => k (ys ++ xs) μ2
def eNil (_ : Ro) (_ : Mu) : Option (List D) := some []
def eCons (a : EvE) (t : EvA) (ρ : Ro) (μ : Mu) : Option (List D) := (a ρ μ).bind fun x => (t ρ μ).bind fun xs => some (x :: xs)
def eStar (a : EvE) (t : EvA) (ρ : Ro) (μ : Mu) : Option (List D) := (a ρ μ).bind fun x => (items μ x).bind fun ys => (t ρ μ).bind fun xs => some (ys ++ xs)
variable {d : DE} {t : DA} {ev : EvE} {ts : EvA}
theorem pad_nil : PAD X A [] dNil := PA.imp pa_nil fun σ H Q q => by
  obtain ⟨Fr, Hf, μ, ρ, k, s, sl, hd, kk⟩ := q
  exact kk _ _ _ _ _ (Same.refl _) s .nil hd
theorem pad_cons (ha : PD X A e d) (hr : PAD X A es t) (hs : starEach (e :: es) X.env = (false, eval e X.env) :: starEach es X.env := by rfl) : PAD X A (e :: es) (dCons d t) := PA.imp (pa_cons ha hr hs) fun σ H Q q => by
  obtain ⟨Fr, Hf, μ, ρ, k, s, sl, hd, kk⟩ := q
  refine ⟨Fr, Hf, μ, ρ, _, s, sl, hd, fun Hf1 μ1 H1 v x e1 s1 r1 h1 => ?_⟩
  refine ⟨Fr, Hf1, μ1, ρ, _, s1, sl.mono e1, h1, fun Hf2 μ2 H2 vs xs e2 s2 r2 h2 => ?_⟩
  exact kk _ _ _ _ _ (e1.trans e2) s2 (.cons (r1.mono e2) r2) h2
theorem pad_star {p : Pos} (ha : PD X A e d) (hr : PAD X A es t) (hs : starEach (.Starred e p :: es) X.env = (true, eval e X.env) :: starEach es X.env := by rfl) : PAD X A (.Starred e p :: es) (dStar d t) := PA.imp (StX.pa_star ha hr hs) fun σ H Q q => by
  obtain ⟨Fr, Hf, μ, ρ, k, s, sl, hd, kk⟩ := q
  refine ⟨Fr, Hf, μ, ρ, _, s, sl, hd, fun Hf1 μ1 H1 v x e1 s1 r1 h1 => ?_⟩
  obtain ⟨ys, h3, h4⟩ := h1
  obtain ⟨a, vs, rfl, hq, rs⟩ := s1.hr.items r1 h3
  refine ⟨a, vs, rfl, hq.symm, ?_⟩
  refine ⟨Fr, Hf1, μ1, ρ, _, s1, sl.mono e1, h4, fun Hf2 μ2 H2 us xs e2 s2 r2 h2 => ?_⟩
  exact kk _ _ _ _ _ (e1.trans e2) s2 ((rs.mono e2).append r2) h2
theorem pav_nil : PAV X A [] eNil := pad_nil.imp fun ρ μ k h => by
  obtain ⟨d, hd, hk⟩ := h
  cases hd
  exact hk
theorem pav_cons (ha : PV X A e ev) (hr : PAV X A es ts) (hs : starEach (e :: es) X.env = (false, eval e X.env) :: starEach es X.env := by rfl) : PAV X A (e :: es) (eCons ev ts) := (pad_cons ha hr hs).imp fun ρ μ k h => by
  obtain ⟨d, hd, hk⟩ := h
  unfold eCons at hd
  cases h1 : ev ρ μ with
  | none => rw [h1] at hd; cases hd
  | some x =>
    cases h2 : ts ρ μ with
    | none => rw [h1, h2] at hd; cases hd
    | some xs =>
      rw [h1, h2] at hd
      cases hd
      exact ⟨x, h1, xs, h2, hk⟩
theorem pav_star {p : Pos} (ha : PV X A e ev) (hr : PAV X A es ts) (hs : starEach (.Starred e p :: es) X.env = (true, eval e X.env) :: starEach es X.env := by rfl) : PAV X A (.Starred e p :: es) (eStar ev ts) := (pad_star ha hr hs).imp fun ρ μ k h => by
  obtain ⟨d, hd, hk⟩ := h
  unfold eStar at hd
  cases h1 : ev ρ μ with
  | none => rw [h1] at hd; cases hd
  | some x =>
    rw [h1] at hd
    simp only [Option.bind_some] at hd
    cases h3 : items μ x with
    | none => rw [h3] at hd; cases hd
    | some ys =>
      cases h2 : ts ρ μ with
      | none => rw [h2, h3] at hd; cases hd
      | some xs =>
        rw [h2, h3] at hd
        cases hd
        exact ⟨x, h1, ys, h3, xs, h2, hk⟩
/-! ### displays -/
def dTup (t : DA) : DE := fun ρ μ k => t ρ μ fun xs μ1 => xs.length ≤ 100000 ∧ k (.tup xs) μ1
def dLst (t : DA) : DE := fun ρ μ k => t ρ μ fun xs μ1 => xs.length ≤ 100000 ∧ k (.lst xs) μ1
/-- a list that is to change -/
def dLstM (t : DA) : DE := fun ρ μ k => t ρ μ fun xs μ1 => xs.length ≤ 100000 ∧ ∀ p, μ1 p = none → k (.loc p) (updM μ1 p (.lst xs))
def gTup : Mu → List D → Option D := fun _ xs => if xs.length ≤ 100000 then some (.tup xs) else none
def gLst : Mu → List D → Option D := fun _ xs => if xs.length ≤ 100000 then some (.lst xs) else none
/-- from a call or a display's reading: the items' list is laid -/
theorem pd_tup {x1} (h : PAD X A es t) : PD X A (.Tuple es x1 pos) (dTup t) := PE.imp (pe_tup h) fun σ H Q q => by
  obtain ⟨Fr, Hf, μ, ρ, k, s, sl, hd, kk⟩ := q
  refine ⟨Fr, Hf, μ, ρ, _, s, sl, hd, fun Hf1 μ1 H1 vs xs e1 s1 r1 h1 => ⟨?_, fun p hp => ?_⟩⟩
  · rw [r1.length]
    exact le_size h1.1
  · exact kk _ _ _ _ _ (e1.trans (s1.sameF hp _)) (s1.newF hp _) (Rep.newT (s1.hr.hf_none hp) r1) h1.2
theorem pd_lst (h : PAD X A es t) : PD X A (.List es pos) (dLst t) := PE.imp (pe_lst h) fun σ H Q q => by
  obtain ⟨Fr, Hf, μ, ρ, k, s, sl, hd, kk⟩ := q
  refine ⟨Fr, Hf, μ, ρ, _, s, sl, hd, fun Hf1 μ1 H1 vs xs e1 s1 r1 h1 => ⟨?_, fun p hp => ?_⟩⟩
  · rw [r1.length]
    exact le_size h1.1
  · exact kk _ _ _ _ _ (e1.trans (s1.sameF hp _)) (s1.newF hp _) (Rep.newL (s1.hr.hf_none hp) r1) h1.2
theorem pd_lstM (h : PAD X A es t) : PD X A (.List es pos) (dLstM t) := PE.imp (pe_lst h) fun σ H Q q => by
  obtain ⟨Fr, Hf, μ, ρ, k, s, sl, hd, kk⟩ := q
  refine ⟨Fr, Hf, μ, ρ, _, s, sl, hd, fun Hf1 μ1 H1 vs xs e1 s1 r1 h1 => ⟨?_, fun p hp => ?_⟩⟩
  · rw [r1.length]
    exact le_size h1.1
  · exact kk _ _ _ _ _ e1 (s1.newM hp (show MOk X.K Hf1 (.lst vs) (.lst xs) from r1)) .loc (h1.2 p (s1.hr.mu_none hp))
theorem eN_ok {g : Mu → List D → Option D} {ts : EvA} {f : DA → DE} (hf : ∀ ρ μ k xs d, ts ρ μ = some xs → g μ xs = some d → k d μ → f (dPA ts) ρ μ k) : ∀ ρ μ k, dP (eN g ts) ρ μ k → f (dPA ts) ρ μ k := fun ρ μ k h => by
  obtain ⟨d, hd, hk⟩ := h
  unfold eN at hd
  cases h1 : ts ρ μ with
  | none => rw [h1] at hd; cases hd
  | some xs =>
    rw [h1] at hd
    exact hf ρ μ k xs d h1 hd hk
theorem pv_tup {x1} (h : PAV X A es ts) : PV X A (.Tuple es x1 pos) (eN gTup ts) := (pd_tup h).imp (eN_ok fun ρ μ k xs d h1 hd hk => by
  unfold gTup at hd
  split at hd
  · next hc =>
    cases hd
    exact ⟨xs, h1, hc, hk⟩
  · cases hd)
theorem pv_lst (h : PAV X A es ts) : PV X A (.List es pos) (eN gLst ts) := (pd_lst h).imp (eN_ok fun ρ μ k xs d h1 hd hk => by
  unfold gLst at hd
  split at hd
  · next hc =>
    cases hd
    exact ⟨xs, h1, hc, hk⟩
  · cases hd)
end
end DL
end

section
set_option maxRecDepth 100000
/-! DL4: calls, subscripts, fields, methods. -/
namespace DL
open PySem PySem.Spec PyProof.Rows L2

section
variable {X : Cx} {A : Amb} {K : PySem.W.Frag} {e a b c : Expr} {pos : Pos} {es : List Expr} {d : DE} {t : DA} {ev : EvE} {ts : EvA}
/-! ### calls by values -/
def SdC (K : PySem.W.Frag) (A : Amb) (r : List V → Hp → VK → Prop) (f : DC) : Prop := ∀ (Fr Hf : Hp) (μ : Mu) (H : Hp) (vs : List V) (xs : List D) (k : DK) (Q : VK), RS K A Fr Hf μ H → Reps K Hf vs xs → f xs μ k → KK K A Fr Hf k Q → r vs H Q
def dCall (f : DC) (t : DA) : DE := fun ρ μ k => t ρ μ fun xs μ1 => f xs μ1 k
theorem call_ok {r : List V → Hp → VK → Prop} {f : DC} (hs : SdC K A r f) {σ : Sg} {H : Hp} {Q : VK} (q : tD K A (dCall f t) σ H Q) : tDA K A t σ H fun vs H1 => r vs H1 Q := by
  obtain ⟨Fr, Hf, μ, ρ, k, s, sl, hd, kk⟩ := q
  exact ⟨Fr, Hf, μ, ρ, _, s, sl, hd, fun Hf1 μ1 H1 vs xs e1 s1 r1 h1 => hs _ _ _ _ _ _ _ _ s1 r1 h1 (kk.go e1)⟩
theorem dP_call {g : Mu → List D → Option D} : ∀ ρ μ k, dP (eN g ts) ρ μ k → dCall (pN g) (dPA ts) ρ μ k := fun ρ μ k h => by
  obtain ⟨d, hd, hk⟩ := h
  unfold eN at hd
  cases h1 : ts ρ μ with
  | none => rw [h1] at hd; cases hd
  | some xs =>
    rw [h1] at hd
    exact ⟨xs, h1, d, hd, hk⟩
section
variable {x : Str} {p : Pos} {id T : String} {r : List V → Hp → VK → Prop} {f : DC} {g : Mu → List D → Option D}
theorem pd_callB (hc : CallR X (.builtin id) r) (hs : SdC X.K A r f) (hg : Gl X x) (hm : X.mg x = none) (hv : bootBuiltins x = some (.builtin id)) (ha : PAD X A (e :: es) t) (hn : x ≠ "__name__" := by decide) (hdb : (x == ("__debug__" : Str)) = false := by decide)
    (he : starEach (e :: es) X.env = (false, eval e X.env) :: starEach es X.env := by rfl) (hpl : (backTo pos (starEach es X.env)).any (·.1) = false := by rfl) : PD X A (.Call (.Name x p) (e :: es) [] pos) (dCall f t) :=
  PE.imp (pe_callB hc hg hm hv ha hn hdb he hpl) fun _ _ _ q => call_ok hs q
theorem pd_callTy (hc : CallR X (.type T) r) (hs : SdC X.K A r f) (hg : Gl X x) (hm : X.mg x = none) (hv : bootBuiltins x = some (.type T)) (ha : PAD X A (e :: es) t) (hn : x ≠ "__name__" := by decide) (hdb : (x == ("__debug__" : Str)) = false := by decide)
    (he : starEach (e :: es) X.env = (false, eval e X.env) :: starEach es X.env := by rfl) (hpl : (backTo pos (starEach es X.env)).any (·.1) = false := by rfl) : PD X A (.Call (.Name x p) (e :: es) [] pos) (dCall f t) :=
  PE.imp (pe_callTy hc hg hm hv ha hn hdb he hpl) fun _ _ _ q => call_ok hs q
theorem pv_callB (hc : CallR X (.builtin id) r) (hs : SdC X.K A r (pN g)) (hg : Gl X x) (hm : X.mg x = none) (hv : bootBuiltins x = some (.builtin id)) (ha : PAV X A (e :: es) ts) (hn : x ≠ "__name__" := by decide) (hdb : (x == ("__debug__" : Str)) = false := by decide)
    (he : starEach (e :: es) X.env = (false, eval e X.env) :: starEach es X.env := by rfl) (hpl : (backTo pos (starEach es X.env)).any (·.1) = false := by rfl) : PV X A (.Call (.Name x p) (e :: es) [] pos) (eN g ts) := (pd_callB hc hs hg hm hv ha hn hdb he hpl).imp dP_call
theorem pv_callTy (hc : CallR X (.type T) r) (hs : SdC X.K A r (pN g)) (hg : Gl X x) (hm : X.mg x = none) (hv : bootBuiltins x = some (.type T)) (ha : PAV X A (e :: es) ts) (hn : x ≠ "__name__" := by decide) (hdb : (x == ("__debug__" : Str)) = false := by decide)
    (he : starEach (e :: es) X.env = (false, eval e X.env) :: starEach es X.env := by rfl) (hpl : (backTo pos (starEach es X.env)).any (·.1) = false := by rfl) : PV X A (.Call (.Name x p) (e :: es) [] pos) (eN g ts) := (pd_callTy hc hs hg hm hv ha hn hdb he hpl).imp dP_call
end
theorem sdc_of {r : List V → Hp → VK → Prop} {g : Mu → List D → Option D} (h : ∀ (Fr Hf : Hp) (μ : Mu) (H : Hp) (vs : List V) (xs : List D) (d : D) (Q : VK), HR K Fr Hf μ H → Reps K Hf vs xs → g μ xs = some d →
    (∀ u, Rep K Hf u d → Q u H) → (∀ p o, H p = none → Rep K (upd Hf p o) (.ref p) d → Q (.ref p) (upd H p o)) → r vs H Q) : SdC K A r (pN g) :=
  fun Fr Hf μ H vs xs k Q s rs hd kk => by
    obtain ⟨d, hg, hk⟩ := hd
    exact h Fr Hf μ H vs xs d Q s.hr rs hg (fun u ru => kk.at s ru hk) fun p o hp ru => kk _ _ _ _ _ (s.sameF hp o) (s.newF hp o) ru hk
theorem Reps.one_inv {Hf : Hp} {vs : List V} {x : D} (r : Reps K Hf vs [x]) : ∃ v, vs = [v] ∧ Rep K Hf v x := by
  cases r with
  | cons a t =>
    cases t
    exact ⟨_, rfl, a⟩
theorem Reps.two_inv {Hf : Hp} {vs : List V} {x y : D} (r : Reps K Hf vs [x, y]) : ∃ v w, vs = [v, w] ∧ Rep K Hf v x ∧ Rep K Hf w y := by
  cases r with
  | cons a t =>
    cases t with
    | cons b t =>
      cases t
      exact ⟨_, _, rfl, a, b⟩
/-! ### len, int, abs, max, min, all, any, sum, list, tuple -/
def gLen (μ : Mu) : List D → Option D
  | [.str y] => if y.length ≤ 1000000 then some (.int y.length) else none
  | [x] => match items μ x with
    | some xs => some (.int xs.length)
    | none => none
  | _ => none
theorem sd_len : SdC K A (fun xs H Q => ∃ x n, xs = [x] ∧ LenV K x H n ∧ Q (.int n) H) (pN gLen) := sdc_of fun Fr Hf μ H vs xs d Q s rs hg q _ => by
  match xs, hg with
  | [x], hg =>
    obtain ⟨v, rfl, r⟩ := rs.one_inv
    by_cases hs : ∃ y, x = .str y
    · obtain ⟨y, rfl⟩ := hs
      cases r
      simp only [gLen] at hg
      split at hg
      · next hc =>
        cases hg
        exact ⟨_, _, rfl, ⟨le_size6 hc, rfl⟩, q _ .int⟩
      · cases hg
    · have hg' : (match items μ x with | some xs => some (D.int xs.length) | none => none) = some d := by
        cases x <;> first | exact hg | exact absurd ⟨_, rfl⟩ hs
      cases hi : items μ x with
      | none => rw [hi] at hg'; cases hg'
      | some ys =>
        rw [hi] at hg'
        cases hg'
        obtain ⟨a, us, rfl, hq, rs⟩ := s.items r hi
        refine ⟨_, ys.length, rfl, ?_, q _ .int⟩
        rcases hq with hq | hq
        · exact .inl ⟨us, hq, rs.length.symm⟩
        · exact .inr ⟨us, hq, rs.length.symm⟩
  | [], hg => simp [gLen] at hg
  | _ :: _ :: _, hg => simp [gLen] at hg
def gInt (μ : Mu) : List D → Option D
  | [.int i] => some (.int i)
  | [.bl b] => some (.int (if b then 1 else 0))
  | [.str a] => if a.length ≤ 640 then (match PySem.intText? a with | some n => some (.int n) | none => none) else none
  | _ => none
def rIntA : List V → Hp → VK → Prop := fun xs H Q => ((∃ i, xs = [.int i] ∧ Q (.int i) H) ∨ ∃ k, xs = [.bl k] ∧ Q (.int (if k then 1 else 0)) H) ∨ ∃ a n, xs = [.str a] ∧ PySem.intText? a = some n ∧ a.length ≤ 640 ∧ Q (.int n) H
theorem call_intA : CallR X (.type "int") rIntA := call_int1.or call_int_str
theorem sd_int : SdC K A rIntA (pN gInt) := sdc_of fun Fr Hf μ H vs xs d Q s rs hg q _ => by
  match xs, hg with
  | [.int i], hg =>
    obtain ⟨v, rfl, r⟩ := rs.one_inv
    cases r
    cases hg
    exact .inl (.inl ⟨_, rfl, q _ .int⟩)
  | [.bl b], hg =>
    obtain ⟨v, rfl, r⟩ := rs.one_inv
    cases r
    cases hg
    exact .inl (.inr ⟨_, rfl, q _ .int⟩)
  | [.str a], hg =>
    obtain ⟨v, rfl, r⟩ := rs.one_inv
    cases r
    simp only [gInt] at hg
    split at hg
    · next hc =>
      split at hg
      · next n hn =>
        cases hg
        exact .inr ⟨_, _, rfl, hn, hc, q _ .int⟩
      · cases hg
    · cases hg
def gAbs (μ : Mu) : List D → Option D
  | [.int i] => some (.int (if i < 0 then -i else i))
  | _ => none
theorem sd_abs : SdC K A (fun xs H Q => ∃ i, xs = [.int i] ∧ Q (.int (if i < 0 then -i else i)) H) (pN gAbs) := sdc_of fun Fr Hf μ H vs xs d Q s rs hg q _ => by
  match xs, hg with
  | [.int i], hg =>
    obtain ⟨v, rfl, r⟩ := rs.one_inv
    cases r
    cases hg
    exact ⟨_, rfl, q _ .int⟩
def boolsOf : List D → Option (List Bool)
  | [] => some []
  | .bl i :: r => match boolsOf r with
    | some ns => some (i :: ns)
    | none => none
  | _ => none
theorem boolsOf_eq : ∀ {xs : List D} {ns : List Bool}, boolsOf xs = some ns → xs = ns.map .bl
  | [], _, h => by cases h; rfl
  | x :: r, ns, h => by
    cases x <;> simp only [boolsOf] at h <;> try cases h
    case bl i =>
      cases hr : boolsOf r with
      | none => rw [hr] at h; cases h
      | some ms =>
        rw [hr] at h
        cases h
        rw [boolsOf_eq hr]
        rfl
@[simp] theorem boolsOf_map : ∀ ns : List Bool, boolsOf (ns.map .bl) = some ns
  | [] => rfl
  | n :: r => by
    show (match boolsOf (r.map .bl) with | some ns => some (n :: ns) | none => none) = _
    rw [boolsOf_map r]
def strsOf : List D → Option (List Str)
  | [] => some []
  | .str i :: r => match strsOf r with
    | some ns => some (i :: ns)
    | none => none
  | _ => none
theorem strsOf_eq : ∀ {xs : List D} {ns : List Str}, strsOf xs = some ns → xs = ns.map .str
  | [], _, h => by cases h; rfl
  | x :: r, ns, h => by
    cases x <;> simp only [strsOf] at h <;> try cases h
    case str i =>
      cases hr : strsOf r with
      | none => rw [hr] at h; cases h
      | some ms =>
        rw [hr] at h
        cases h
        rw [strsOf_eq hr]
        rfl
@[simp] theorem strsOf_map : ∀ ns : List Str, strsOf (ns.map .str) = some ns
  | [] => rfl
  | n :: r => by
    show (match strsOf (r.map .str) with | some ns => some (n :: ns) | none => none) = _
    rw [strsOf_map r]
def gBls (f : List Bool → Bool) (μ : Mu) : List D → Option D
  | [x] => match itemsL μ x with
    | some xs => match boolsOf xs with
      | some bs => some (.bl (f bs))
      | none => none
    | none => none
  | _ => none
def rBls (f : List Bool → Bool) (K : PySem.W.Frag) : List V → Hp → VK → Prop := fun vs H Q => ∃ (a : Addr) (bs : List Bool), vs = [V.ref a] ∧ SqL K H a (bs.map V.bl) ∧ Q (.bl (f bs)) H
theorem sd_bls {f : List Bool → Bool} : SdC K A (rBls f K) (pN (gBls f)) := sdc_of fun Fr Hf μ H vs xs d Q s rs hg q _ => by
  match xs, hg with
  | [x], hg =>
    obtain ⟨v, rfl, r⟩ := rs.one_inv
    simp only [gBls] at hg
    split at hg
    · next xs hx =>
      split at hg
      · next bs hb =>
        cases hg
        obtain ⟨a, us, rfl, hq, rs⟩ := s.itemsL r hx
        rw [boolsOf_eq hb] at rs
        rw [rs.bls_inv] at hq
        exact ⟨a, bs, rfl, hq, q _ .bl⟩
      · cases hg
    · cases hg
theorem sd_all : SdC K A (rAll K) (pN (gBls fun bs => bs.all id)) := sd_bls
theorem sd_any : SdC K A (rAny K) (pN (gBls fun bs => bs.any id)) := sd_bls
def gSum (μ : Mu) : List D → Option D
  | [x] => match itemsL μ x with
    | some xs => match intsOf xs with
      | some bs => some (.int bs.sum)
      | none => none
    | none => none
  | _ => none
theorem sd_sum : SdC K A (rSum K) (pN gSum) := sdc_of fun Fr Hf μ H vs xs d Q s rs hg q _ => by
  match xs, hg with
  | [x], hg =>
    obtain ⟨v, rfl, r⟩ := rs.one_inv
    simp only [gSum] at hg
    split at hg
    · next xs hx =>
      split at hg
      · next bs hb =>
        cases hg
        obtain ⟨a, us, rfl, hq, rs⟩ := s.itemsL r hx
        rw [intsOf_eq hb] at rs
        rw [rs.ints_inv] at hq
        exact ⟨a, bs, rfl, hq, q _ .int⟩
      · cases hg
    · cases hg
/-- max, min of two ints, of a list of ints -/
def gMax (μ : Mu) : List D → Option D
  | [.int i, .int j] => some (.int (if j > i then j else i))
  | _ => none
def gMin (μ : Mu) : List D → Option D
  | [.int i, .int j] => some (.int (if j < i then j else i))
  | _ => none
theorem sd_max2 : SdC K A (fun xs H Q => ∃ i j, xs = [.int i, .int j] ∧ Q (.int (if j > i then j else i)) H) (pN gMax) := sdc_of fun Fr Hf μ H vs xs d Q s rs hg q _ => by
  match xs, hg with
  | [.int i, .int j], hg =>
    obtain ⟨v, w, rfl, r, r2⟩ := rs.two_inv
    cases r
    cases r2
    cases hg
    exact ⟨_, _, rfl, q _ .int⟩
theorem sd_min2 : SdC K A (fun xs H Q => ∃ i j, xs = [.int i, .int j] ∧ Q (.int (if j < i then j else i)) H) (pN gMin) := sdc_of fun Fr Hf μ H vs xs d Q s rs hg q _ => by
  match xs, hg with
  | [.int i, .int j], hg =>
    obtain ⟨v, w, rfl, r, r2⟩ := rs.two_inv
    cases r
    cases r2
    cases hg
    exact ⟨_, _, rfl, q _ .int⟩
def gList (μ : Mu) : List D → Option D
  | [x] => match items μ x with
    | some xs => some (.lst xs)
    | none => none
  | _ => none
/-- a list that is to change -/
def fListM : DC := fun xs μ k => ∃ x ys, xs = [x] ∧ items μ x = some ys ∧ ∀ p, μ p = none → k (.loc p) (updM μ p (.lst ys))
def rListOf (K : PySem.W.Frag) : List V → Hp → VK → Prop := fun xs H Q => ∃ p ys, xs = [.ref p] ∧ (SqL K H p ys ∨ SqT K H p ys) ∧ ∀ l, H l = none → Q (.ref l) (upd H l (.lst ys))
theorem sd_list : SdC K A (rListOf K) (pN gList) := sdc_of fun Fr Hf μ H vs xs d Q s rs hg q qn => by
  match xs, hg with
  | [x], hg =>
    obtain ⟨v, rfl, r⟩ := rs.one_inv
    simp only [gList] at hg
    split at hg
    · next xs hx =>
      cases hg
      obtain ⟨a, us, rfl, hq, rs⟩ := s.items r hx
      exact ⟨a, us, rfl, hq, fun l hl => qn l _ hl (Rep.newL (s.hf_none hl) rs)⟩
    · cases hg
theorem sd_listM : SdC K A (rListOf K) fListM := fun Fr Hf μ H vs xs k Q s rs hd kk => by
  obtain ⟨x, ys, rfl, hx, hk⟩ := hd
  obtain ⟨v, rfl, r⟩ := rs.one_inv
  obtain ⟨a, us, rfl, hq, rs⟩ := s.hr.items r hx
  exact ⟨a, us, rfl, hq, fun l hl => kk _ _ _ _ _ (Same.refl _) (s.newM hl (show MOk K Hf (.lst us) (.lst ys) from rs)) .loc (hk l (s.hr.mu_none hl))⟩
def gTuple (μ : Mu) : List D → Option D
  | [x] => match items μ x with
    | some xs => some (.tup xs)
    | none => none
  | _ => none
theorem sd_tuple : SdC K A (fun xs H Q => ∃ p ys, xs = [.ref p] ∧ ((SqL K H p ys ∧ ∀ l, H l = none → Q (.ref l) (upd H l (.tup ys))) ∨ (SqT K H p ys ∧ Q (.ref p) H))) (pN gTuple) := sdc_of fun Fr Hf μ H vs xs d Q s rs hg q qn => by
  match xs, hg with
  | [x], hg =>
    obtain ⟨v, rfl, r⟩ := rs.one_inv
    by_cases ht : ∃ ys, x = .tup ys
    · obtain ⟨ys, rfl⟩ := ht
      cases hg
      obtain ⟨a, us, rfl, hq, rs⟩ := s.itemsT r rfl
      exact ⟨a, us, rfl, .inr ⟨.inl (.inl hq), q _ r⟩⟩
    · simp only [gTuple] at hg
      split at hg
      · next xs hx =>
        cases hg
        have hx' : itemsL μ x = some xs := by
          cases x <;> first | exact hx | exact absurd ⟨_, rfl⟩ ht
        obtain ⟨a, us, rfl, hq, rs⟩ := s.itemsL r hx'
        exact ⟨a, us, rfl, .inl ⟨hq, fun l hl => qn l _ hl (Rep.newT (s.hf_none hl) rs)⟩⟩
      · cases hg
/-! ### isinstance -/
def tyD (μ : Mu) : D → Option String
  | .non => some "NoneType"
  | .bl _ => some "bool"
  | .int _ => some "int"
  | .str _ => some "str"
  | .tup _ => some "tuple"
  | .lst _ => some "list"
  | .scr _ => some "list"
  | .loc p => match μ p with
    | some (.lst _) => some "list"
    | some (.dic _) => some "dict"
    | _ => none
theorem tyD_ok {Fr Hf H : Hp} {μ : Mu} {v : V} {x : D} {T : String} (s : HR K Fr Hf μ H) (r : Rep K Hf v x) (h : tyD μ x = some T) : TyX K H v (.type T) := by
  cases r <;> simp only [tyD] at h <;> try cases h
  case non => exact .base .non
  case bl b => exact .base (.bl _)
  case int i => exact .base (.int _)
  case str y => exact .base (.str _)
  case tup a vs xs ha hr => exact .base (.tup (s.ex _ _ ha))
  case lst a vs xs ha hr => exact .base (.lst (s.ex _ _ ha))
  case scr a ns hs =>
    rcases s.ex.seq hs with (h | ⟨o, h⟩) | ⟨o, its, n, h1, h2, _⟩
    · exact .base (.lst h)
    · exact .base (.frz h)
    · exact .kList h1 h2
  case loc a =>
    cases hm : μ a with
    | none => rw [hm] at h; cases h
    | some m =>
      obtain ⟨_, o, e, ok⟩ := s.mu a _ hm
      cases m with
      | lst ys =>
        rw [hm] at h
        cases h
        obtain ⟨vs, rfl, rs⟩ := ok.lst
        exact .base (.lst e)
      | dic ys =>
        rw [hm] at h
        cases h
        obtain ⟨vs, rfl, rs⟩ := ok.dic
        exact .base (.dK e)
      | ins => rw [hm] at h; cases h
/-- the classes by their names -/
def kitS (T : String) : List String → Option Bool
  | [] => some false
  | c :: r => match kitB T c with
    | some true => some true
    | some false => kitS T r
    | none => none
def gIsi (cs : List String) (μ : Mu) (x : D) : Option D := match tyD μ x with
  | some T => match kitS T cs with
    | some b => some (.bl b)
    | none => none
  | none => none
theorem kitS_any {T : String} : ∀ {cs : List String} {b : Bool}, kitS T cs = some b → PySem.W.kitAny K (.type T) (cs.map Value.type) = some b
  | [], _, h => by cases h; rfl
  | c :: r, b, h => by
    simp only [kitS] at h
    split at h
    · next h1 =>
      cases h
      exact kitAny_cons (kit_ty h1) (fun z => nomatch z) fun _ => rfl
    · next h1 => exact kitAny_cons (kit_ty h1) (fun _ => kitS_any h) fun z => nomatch z
    · cases h
theorem clsV_all : ∀ cs : List String, Paired ClsV (cs.map V.ty) (cs.map Value.type)
  | [] => .nil
  | c :: r => .cons (.ty c) (clsV_all r)
/-- isinstance(e, T) -/
theorem pv_isi {x : Str} {p : Pos} {T : String} (hg : Gl X x) (hm : X.mg x = none) (hv : bootBuiltins x = some (.builtin "isinstance")) (ha : PV X A a ev) (hb : PE X b (tC (.ty T))) (hn : x ≠ "__name__" := by decide) (hdb : (x == ("__debug__" : Str)) = false := by decide)
    (he : starEach [a, b] X.env = (false, eval a X.env) :: starEach [b] X.env := by rfl) (he2 : starEach [b] X.env = (false, eval b X.env) :: starEach [] X.env := by rfl) (hpl : (backTo pos (starEach [b] X.env)).any (·.1) = false := by rfl) :
    PV X A (.Call (.Name x p) [a, b] [] pos) (e1 (gIsi [T]) ev) :=
  PE.imp (pe_callB call_isi hg hm hv (pa_cons ha (pa_cons hb pa_nil he2) he) hn hdb he hpl) fun σ H Q q => by
    obtain ⟨Fr, Hf, μ, ρ, k, s, sl, ⟨d, hd, hk⟩, kk⟩ := q
    unfold e1 at hd
    cases h1 : ev ρ μ with
    | none => rw [h1] at hd; cases hd
    | some x =>
      rw [h1] at hd
      simp only [Option.bind_some, gIsi] at hd
      refine ⟨Fr, Hf, μ, ρ, fun x' μ' => x' = x ∧ μ' = μ, s, sl, ⟨x, h1, rfl, rfl⟩, fun Hf1 μ1 H1 v x' e1 s1 r1 q1 => ?_⟩
      obtain ⟨rfl, rfl⟩ := q1
      split at hd
      · next T' hT =>
        split at hd
        · next c hc =>
          cases hd
          refine ⟨v, .ty T, .type T', .type T, c, rfl, .ty T, tyD_ok s1.hr r1 hT, ?_, kk _ _ _ _ _ e1 s1 .bl hk⟩
          simp only [kitS] at hc
          split at hc
          · next h2 =>
            cases hc
            exact kit_ty h2
          · next h2 =>
            cases hc
            exact kit_ty h2
          · cases hc
        · cases hd
      · cases hd
/-- isinstance(e, (T, U)) -/
theorem pv_isi2 {x : Str} {p tp : Pos} {kk : _} {b2 : Expr} {T U : String} (hg : Gl X x) (hm : X.mg x = none) (hv : bootBuiltins x = some (.builtin "isinstance")) (ha : PV X A a ev) (hb : PE X b (tC (.ty T))) (hb2 : PE X b2 (tC (.ty U))) (hn : x ≠ "__name__" := by decide) (hdb : (x == ("__debug__" : Str)) = false := by decide)
    (he : starEach [a, .Tuple [b, b2] kk tp] X.env = (false, eval a X.env) :: starEach [.Tuple [b, b2] kk tp] X.env := by rfl) (he2 : starEach [.Tuple [b, b2] kk tp] X.env = (false, eval (.Tuple [b, b2] kk tp) X.env) :: starEach [] X.env := by rfl)
    (he3 : starEach [b, b2] X.env = (false, eval b X.env) :: starEach [b2] X.env := by rfl) (he4 : starEach [b2] X.env = (false, eval b2 X.env) :: starEach [] X.env := by rfl)
    (hpl : (backTo pos (starEach [.Tuple [b, b2] kk tp] X.env)).any (·.1) = false := by rfl) :
    PV X A (.Call (.Name x p) [a, .Tuple [b, b2] kk tp] [] pos) (e1 (gIsi [T, U]) ev) :=
  PE.imp (pe_callB call_isiT hg hm hv (pa_cons ha (pa_cons (pe_tup (pa_cons hb (pa_cons hb2 pa_nil he4) he3)) pa_nil he2) he) hn hdb he hpl) fun σ H Q q => by
    obtain ⟨Fr, Hf, μ, ρ, k, s, sl, ⟨d, hd, hk⟩, kk⟩ := q
    unfold e1 at hd
    cases h1 : ev ρ μ with
    | none => rw [h1] at hd; cases hd
    | some x =>
      rw [h1] at hd
      simp only [Option.bind_some, gIsi] at hd
      refine ⟨Fr, Hf, μ, ρ, fun x' μ' => x' = x ∧ μ' = μ, s, sl, ⟨x, h1, rfl, rfl⟩, fun Hf1 μ1 H1 v x' e1 s1 r1 q1 => ?_⟩
      obtain ⟨rfl, rfl⟩ := q1
      refine ⟨le_size (show 2 ≤ 100000 by decide), fun p hp => ?_⟩
      split at hd
      · next T' hT =>
        split at hd
        · next c hc =>
          cases hd
          have s2 := s1.newF hp (.tup [.ty T, .ty U])
          exact ⟨v, p, [.ty T, .ty U], .type T', [.type T, .type U], c, rfl, upd_same, .cons (.ty T) (.cons (.ty U) .nil), tyD_ok s2.hr (r1.mono (s1.sameF hp _)) hT, kitS_any (cs := [T, U]) hc, kk _ _ _ _ _ (e1.trans (s1.sameF hp _)) s2 .bl hk⟩
        · cases hd
      · cases hd
/-! ### subscripts -/
def gIx (μ : Mu) (x y : D) : Option D := match y with
  | .int i => match x with
    | .str z => if z.length ≤ 1000000 then (match atI z.cps.toList i with | some c => some (.str ⟨#[c]⟩) | none => none) else none
    | x => match items μ x with
      | some xs => atI xs i
      | none => none
  | _ => none
theorem sd_ix : SdR K A (rIx K) (p2 gIx) := sdr_of fun Fr Hf μ H v w x y d Q s rv rw_ hg q => by
  cases y <;> simp only [gIx] at hg <;> try (cases hg; done)
  case int i =>
    cases rw_
    by_cases hs : ∃ z, x = .str z
    · obtain ⟨z, rfl⟩ := hs
      cases rv
      simp only at hg
      split at hg
      · next hc =>
        split at hg
        · next c h1 =>
          cases hg
          exact .inr (.inr ⟨_, _, _, rfl, rfl, le_size6 hc, h1, q _ .str⟩)
        · cases hg
      · cases hg
    · have hg' : (match items μ x with | some xs => atI xs i | none => none) = some d := by
        cases x <;> first | exact hg | exact absurd ⟨_, rfl⟩ hs
      cases hi : items μ x with
      | none => rw [hi] at hg'; cases hg'
      | some xs =>
        rw [hi] at hg'
        obtain ⟨a, vs, rfl, hq, rs⟩ := s.items rv hi
        obtain ⟨u, h1, h2⟩ := rs.atI hg'
        rcases hq with hq | hq
        · exact .inl ⟨a, vs, i, u, rfl, rfl, hq, h1, q _ h2⟩
        · exact .inr (.inl ⟨a, vs, i, u, rfl, rfl, hq, h1, q _ h2⟩)
theorem pd_ix {da db : DE} (ha : PD X A a da) (hb : PD X A b db) (hs : PlainIx b := by intro _ _; rfl) : PD X A (.Subscript a b pos) (dOp (p2 gIx) da db) := PE.imp (pe_ix ix_seq ha hb hs) fun _ _ _ q => d_two sd_ix q
theorem pv_ix {ea eb : EvE} (ha : PV X A a ea) (hb : PV X A b eb) (hs : PlainIx b := by intro _ _; rfl) : PV X A (.Subscript a b pos) (e2 gIx ea eb) := (pd_ix ha hb hs).imp dP_op
/-! ### slices -/
abbrev EvO := Ro → Mu → Option (Option Int)
def tDO (K : PySem.W.Frag) (A : Amb) (ev : EvO) : TO := fun σ H Q => ∃ Fr Hf μ ρ o, RS K A Fr Hf μ H ∧ SlR K Hf σ ρ ∧ ev ρ μ = some o ∧ ∀ Hf' H', Same Hf Hf' → RS K A Fr Hf' μ H' → Q o H'
def POV (X : Cx) (A : Amb) (e : Option Expr) (ev : EvO) : Prop := PO X e (tDO X.K A ev)
def eNoPart (_ : Ro) (_ : Mu) : Option (Option Int) := some none
def ePart (a : EvE) (ρ : Ro) (μ : Mu) : Option (Option Int) := match a ρ μ with
  | some (.int i) => some (some i)
  | _ => none
theorem PO.imp {e : Option Expr} {t t' : TO} (h : PO X e t) (i : ∀ σ H Q, t' σ H Q → t σ H Q) : PO X e t' := ⟨fun pins s σ H Q I q => h.run pins s σ H Q I (i _ _ _ q)⟩
theorem pov_none : POV X A none eNoPart := PO.imp po_none fun σ H Q q => by
  obtain ⟨Fr, Hf, μ, ρ, o, s, sl, hd, kk⟩ := q
  cases hd
  exact kk _ _ (Same.refl _) s
theorem pov_some (h : PV X A e ev) : POV X A (some e) (ePart ev) := PO.imp (po_some h) fun σ H Q q => by
  obtain ⟨Fr, Hf, μ, ρ, o, s, sl, hd, kk⟩ := q
  unfold ePart at hd
  split at hd
  · next i h1 =>
    cases hd
    refine ⟨Fr, Hf, μ, ρ, fun x' μ' => x' = .int i ∧ μ' = μ, s, sl, ⟨_, h1, rfl, rfl⟩, fun Hf1 μ1 H1 v x' e1 s1 r1 q1 => ?_⟩
    obtain ⟨rfl, rfl⟩ := q1
    cases r1
    exact ⟨i, rfl, kk _ _ e1 s1⟩
  · cases hd
def cutD {α : Type} (xs : List α) (lo hi : Option Int) : List α := (xs.drop (HT.sIx xs.length 0 lo)).take (HT.sIx xs.length xs.length hi - HT.sIx xs.length 0 lo)
def gSl (μ : Mu) (x : D) (lo hi : Option Int) : Option D := match x with
  | .str z => if z.length ≤ 1000000 then some (.str (cutS z lo hi)) else none
  | .tup xs => some (.tup (cutD xs lo hi))
  | x => match itemsL μ x with
    | some xs => some (.lst (cutD xs lo hi))
    | none => none
def rSlB (K : PySem.W.Frag) : V → Option Int → Option Int → Hp → VK → Prop := fun x lo hi H Q => rSlL K x lo hi H Q ∨ rSlA K x lo hi H Q ∨ rSlS x lo hi H Q
theorem sl_all : L2.SlR X (rSlB X.K) := sl_list.or (sl_tupA.or sl_str)
theorem Reps.cut {Hf : Hp} {vs : List V} {xs : List D} (r : Reps K Hf vs xs) (lo hi : Option Int) : Reps K Hf (cutV vs lo hi) (cutD xs lo hi) := by
  unfold cutV cutD
  rw [r.length]
  exact (r.drop _).take _
theorem sIx_zero_full {α : Type} {xs : List α} {lo hi : Option Int} (h : HT.sIx xs.length 0 lo = 0 ∧ HT.sIx xs.length xs.length hi = xs.length) : cutD xs lo hi = xs := by
  unfold cutD
  rw [h.1, h.2, List.drop_zero, Nat.sub_zero, List.take_length]
theorem sl_ok {Fr Hf H : Hp} {μ : Mu} {v : V} {x d : D} {lo hi : Option Int} {k : DK} {Q : VK} (s : RS K A Fr Hf μ H) (r : Rep K Hf v x) (hg : gSl μ x lo hi = some d) (hk : k d μ) (kk : KK K A Fr Hf k Q) : rSlB K v lo hi H Q := by
  have hL : ∀ xs, itemsL μ x = some xs → d = .lst (cutD xs lo hi) → rSlB K v lo hi H Q := fun xs h1 h2 => by
    subst h2
    obtain ⟨a, us, rfl, hq, rs⟩ := s.hr.itemsL r h1
    exact .inl ⟨a, us, rfl, hq, fun p hp => kk _ _ _ _ _ (s.sameF hp _) (s.newF hp _) (Rep.newL (s.hr.hf_none hp) (rs.cut lo hi)) hk⟩
  have hL2 : (match itemsL μ x with | some xs => some (D.lst (cutD xs lo hi)) | none => none) = some d → rSlB K v lo hi H Q := fun h => by
    cases h1 : itemsL μ x with
    | none => rw [h1] at h; cases h
    | some xs =>
      rw [h1] at h
      cases h
      exact hL xs h1 rfl
  cases x <;> try exact hL2 hg
  case str z =>
    cases r
    simp only [gSl] at hg
    split at hg
    · next hc =>
      cases hg
      exact .inr (.inr ⟨z, rfl, le_size6 hc, kk.at s .str hk⟩)
    · cases hg
  case tup xs =>
    cases hg
    obtain ⟨a, us, rfl, hq, rs⟩ := s.hr.itemsT r rfl
    refine .inr (.inl ⟨a, us, rfl, .inl (.inl hq), fun h => ?_, fun h p hp => ?_⟩)
    · rw [rs.length] at h
      rw [sIx_zero_full h] at hk
      exact kk.at s r hk
    · exact kk _ _ _ _ _ (s.sameF hp _) (s.newF hp _) (Rep.newT (s.hr.hf_none hp) (rs.cut lo hi)) hk
def dSl (d : DE) (lo hi : EvO) : DE := fun ρ μ k => d ρ μ fun x μ1 => ∃ l u y, lo ρ μ1 = some l ∧ hi ρ μ1 = some u ∧ gSl μ1 x l u = some y ∧ k y μ1
def eSl (d : EvE) (lo hi : EvO) (ρ : Ro) (μ : Mu) : Option D := (d ρ μ).bind fun x => (lo ρ μ).bind fun l => (hi ρ μ).bind fun u => gSl μ x l u
theorem pd_sl {lo hi : Option Expr} {el eh : EvO} {p2 : Pos} (ha : PD X A a d) (hl : POV X A lo el) (hh : POV X A hi eh) : PD X A (.Subscript a (.Slice lo hi none p2) pos) (dSl d el eh) := PE.imp (pe_slice sl_all ha hl hh) fun σ H Q q => by
  obtain ⟨Fr, Hf, μ, ρ, k, s, sl, hd, kk⟩ := q
  refine ⟨Fr, Hf, μ, ρ, _, s, sl, hd, fun Hf1 μ1 H1 v x e1 s1 r1 h1 => ?_⟩
  obtain ⟨l, u, y, h2, h3, h4, h5⟩ := h1
  refine ⟨Fr, Hf1, μ1, ρ, l, s1, sl.mono e1, h2, fun Hf2 H2 e2 s2 => ?_⟩
  refine ⟨Fr, Hf2, μ1, ρ, u, s2, sl.mono (e1.trans e2), h3, fun Hf3 H3 e3 s3 => ?_⟩
  exact sl_ok s3 (r1.mono (e2.trans e3)) h4 h5 (kk.go (e1.trans (e2.trans e3)))
theorem pv_sl {lo hi : Option Expr} {el eh : EvO} {p2 : Pos} (ha : PV X A a ev) (hl : POV X A lo el) (hh : POV X A hi eh) : PV X A (.Subscript a (.Slice lo hi none p2) pos) (eSl ev el eh) := (pd_sl ha hl hh).imp fun ρ μ k h => by
  obtain ⟨d, hd, hk⟩ := h
  unfold eSl at hd
  cases h1 : ev ρ μ with
  | none => rw [h1] at hd; cases hd
  | some x =>
    cases h2 : el ρ μ with
    | none => rw [h1, h2] at hd; cases hd
    | some l =>
      cases h3 : eh ρ μ with
      | none => rw [h1, h2, h3] at hd; cases hd
      | some u =>
        rw [h1, h2, h3] at hd
        exact ⟨x, h1, l, u, d, h2, h3, hd, hk⟩
end
end DL
end

section
set_option maxRecDepth 100000
/-! DL5: list methods, fields, own defs and methods. -/
namespace DL
open PySem PySem.Spec PyProof.Rows L2

section
variable {X : Cx} {A : Amb} {K : PySem.W.Frag} {e o a b c : Expr} {pos : Pos} {es : List Expr} {d : DE} {t : DA} {ev : EvE} {ts : EvA}
/-! ### methods of lists -/
def SdM (K : PySem.W.Frag) (A : Amb) (r : V → List V → Hp → VK → Prop) (f : D → DC) : Prop := ∀ (Fr Hf : Hp) (μ : Mu) (H : Hp) (v : V) (vs : List V) (x : D) (xs : List D) (k : DK) (Q : VK), RS K A Fr Hf μ H → Rep K Hf v x → Reps K Hf vs xs → f x xs μ k → KK K A Fr Hf k Q → r v vs H Q
def dBM (f : D → DC) (d : DE) (t : DA) : DE := fun ρ μ k => d ρ μ fun x μ1 => (∃ zs, itemsL μ1 x = some zs) ∧ t ρ μ1 fun xs μ2 => f x xs μ2 k
def dBM0 (f : D → DC) (d : DE) : DE := fun ρ μ k => d ρ μ fun x μ1 => (∃ zs, itemsL μ1 x = some zs) ∧ f x [] μ1 k
theorem tyV_list {H : Hp} {v : V} {a : Addr} {vs : List V} (e : v = .ref a) (h : SqL K H a vs) : tyV K "list" v H := by
  subst e
  exact .inl ⟨rfl, _, h⟩
theorem pd_bm {name : Str} {apos : Pos} {id : String} {r : V → List V → Hp → VK → Prop} {f : D → DC} (slot : Slot "list" name id) (hty : typeOf (.builtin id) = pure (.type "method_descriptor")) (hm : MtR X id r) (hs : SdM X.K A r f) (ho : PD X A o d) (ha : PAD X A (e :: es) t)
    (hbase : attributeBase o name X.env (eval o X.env) = eval o X.env := by rfl)
    (hfew : ((backTo pos (starEach (e :: es) X.env)).all (fun x => !x.1) && (backToKw pos (keywordEach [] X.env)).all (fun x => x.1.isSome)
      && decide ((e :: es).length + ([] : List Keyword).length + (if ([] : List Keyword).isEmpty then 0 else 1) < 30)) = true := by rfl)
    (hline : (apos.endLine == pos.line) = true := by rfl) (hst : starEach (e :: es) X.env = (false, eval e X.env) :: starEach es X.env := by rfl) (hplain : (backTo pos (starEach es X.env)).any (·.1) = false := by rfl) :
    PD X A (.Call (.Attribute o name apos) (e :: es) [] pos) (dBM f d t) := PE.imp (pe_bm PySem.F.plainAttrs_list slot hty hm ho ha hbase hfew hline hst hplain) fun σ H Q q => by
  obtain ⟨Fr, Hf, μ, ρ, k, s, sl, hd, kk⟩ := q
  refine ⟨Fr, Hf, μ, ρ, _, s, sl, hd, fun Hf1 μ1 H1 v x e1 s1 r1 h1 => ?_⟩
  obtain ⟨⟨zs, hz⟩, h2⟩ := h1
  obtain ⟨a, vs, he, hq, _⟩ := s1.hr.itemsL r1 hz
  refine ⟨tyV_list he hq, Fr, Hf1, μ1, ρ, _, s1, sl.mono e1, h2, fun Hf2 μ2 H2 us xs e2 s2 r2 h3 => ?_⟩
  exact hs _ _ _ _ _ _ _ _ _ _ s2 (r1.mono e2) r2 h3 (kk.go (e1.trans e2))
theorem pd_bm0 {name : Str} {apos : Pos} {id : String} {r : V → List V → Hp → VK → Prop} {f : D → DC} (slot : Slot "list" name id) (hty : typeOf (.builtin id) = pure (.type "method_descriptor")) (hm : MtR X id r) (hs : SdM X.K A r f) (ho : PD X A o d)
    (hbase : attributeBase o name X.env (eval o X.env) = eval o X.env := by rfl) (hline : (apos.endLine == pos.line) = true := by rfl) :
    PD X A (.Call (.Attribute o name apos) [] [] pos) (dBM0 f d) := PE.imp (pe_bm0 PySem.F.plainAttrs_list slot hty hm ho hbase hline) fun σ H Q q => by
  obtain ⟨Fr, Hf, μ, ρ, k, s, sl, hd, kk⟩ := q
  refine ⟨Fr, Hf, μ, ρ, _, s, sl, hd, fun Hf1 μ1 H1 v x e1 s1 r1 h1 => ?_⟩
  obtain ⟨⟨zs, hz⟩, h2⟩ := h1
  obtain ⟨a, vs, he, hq, _⟩ := s1.hr.itemsL r1 hz
  exact ⟨tyV_list he hq, hs _ _ _ _ _ _ _ _ _ _ s1 r1 .nil h2 (kk.go e1)⟩
/-- the list at a place -/
def lstAt (μ : Mu) (x : D) (k : Addr → List D → Prop) : Prop := match x with
  | .loc p => ∃ zs, μ p = some (.lst zs) ∧ k p zs
  | _ => False
theorem lstAt_ok {Fr Hf H : Hp} {μ : Mu} {v : V} {x : D} {k : Addr → List D → Prop} (s : HR K Fr Hf μ H) (r : Rep K Hf v x) (h : lstAt μ x k) : ∃ p zs vs, x = .loc p ∧ v = .ref p ∧ μ p = some (.lst zs) ∧ H p = some (.lst vs) ∧ Reps K Hf vs zs ∧ k p zs := by
  cases r <;> simp only [lstAt] at h
  case loc p =>
    obtain ⟨zs, hm, hk⟩ := h
    obtain ⟨_, o, e, ok⟩ := s.mu p _ hm
    obtain ⟨vs, rfl, rs⟩ := ok.lst
    exact ⟨p, zs, vs, rfl, rfl, hm, e, rs, hk⟩
def fApp : D → DC := fun x xs μ k => lstAt μ x fun p zs => match xs with
  | [y] => zs.length < 100000 ∧ k .non (updM μ p (.lst (zs ++ [y])))
  | _ => False
theorem sd_app : SdM K A rAppend fApp := fun Fr Hf μ H v vs x xs k Q s rv rs hd kk => by
  obtain ⟨p, zs, us, rfl, rfl, hm, hH, r2, h⟩ := lstAt_ok s.hr rv hd
  match xs, h with
  | [y], ⟨hz, hk⟩ =>
    obtain ⟨w, rfl, rw_⟩ := rs.one_inv
    refine ⟨p, us, w, rfl, rfl, hH, ?_, kk _ _ _ _ _ (Same.refl _) (s.set hm (show MOk K Hf (.lst (us ++ [w])) (.lst (zs ++ [y])) from r2.append (.one rw_))) .non hk⟩
    rw [r2.length]
    exact lt_size hz
theorem pd_app {apos : Pos} (ho : PD X A o d) (ha : PAD X A [e] t)
    (hbase : attributeBase o "append" X.env (eval o X.env) = eval o X.env := by rfl)
    (hfew : ((backTo pos (starEach [e] X.env)).all (fun x => !x.1) && (backToKw pos (keywordEach [] X.env)).all (fun x => x.1.isSome)
      && decide ([e].length + ([] : List Keyword).length + (if ([] : List Keyword).isEmpty then 0 else 1) < 30)) = true := by rfl)
    (hline : (apos.endLine == pos.line) = true := by rfl) (hst : starEach [e] X.env = (false, eval e X.env) :: starEach [] X.env := by rfl) (hplain : (backTo pos (starEach [] X.env)).any (·.1) = false := by rfl) :
    PD X A (.Call (.Attribute o "append" apos) [e] [] pos) (dBM fApp d t) := pd_bm PySem.F.slot_list_append PySem.F.type_list_append mt_append sd_app ho ha hbase hfew hline hst hplain
def fPop : D → DC := fun x xs μ k => lstAt μ x fun p zs => xs = [] ∧ ∃ y, zs[zs.length - 1]? = some y ∧ k y (updM μ p (.lst zs.dropLast))
theorem sd_pop : SdM K A rPop fPop := fun Fr Hf μ H v vs x xs k Q s rv rs hd kk => by
  obtain ⟨p, zs, us, rfl, rfl, hm, hH, r2, hx, y, hy, hk⟩ := lstAt_ok s.hr rv hd
  subst hx
  cases rs
  obtain ⟨w, hw, rw_⟩ := r2.get hy
  rw [← r2.length] at hw
  exact ⟨p, us, w, rfl, rfl, hH, hw, kk _ _ _ _ _ (Same.refl _) (s.set hm (show MOk K Hf (.lst us.dropLast) (.lst zs.dropLast) from r2.dropLast)) rw_ hk⟩
theorem pd_pop {apos : Pos} (ho : PD X A o d) (hbase : attributeBase o "pop" X.env (eval o X.env) = eval o X.env := by rfl) (hline : (apos.endLine == pos.line) = true := by rfl) :
    PD X A (.Call (.Attribute o "pop" apos) [] [] pos) (dBM0 fPop d) := pd_bm0 PySem.F.slot_list_pop PySem.F.type_list_pop mt_pop sd_pop ho hbase hline
def fPopAt : D → DC := fun x xs μ k => lstAt μ x fun p zs => match xs with
  | [.int i] => (0 ≤ i ∧ i < 100000) ∧ ∃ y, zs[i.toNat]? = some y ∧ k y (updM μ p (.lst (zs.eraseIdx i.toNat)))
  | _ => False
theorem sd_popAt : SdM K A rPopAt fPopAt := fun Fr Hf μ H v vs x xs k Q s rv rs hd kk => by
  obtain ⟨p, zs, us, rfl, rfl, hm, hH, r2, h⟩ := lstAt_ok s.hr rv hd
  match xs, h with
  | [.int i], ⟨hi, y, hy, hk⟩ =>
    obtain ⟨w, rfl, rw_⟩ := rs.one_inv
    cases rw_
    obtain ⟨u, hu, ru⟩ := r2.get hy
    have hl : i.toNat < us.length := (List.getElem?_eq_some_iff.mp hu).1
    refine ⟨p, us, i, i.toNat, u, rfl, rfl, hH, by omega, by omega, ?_, hu, kk _ _ _ _ _ (Same.refl _) (s.set hm (show MOk K Hf (.lst (us.eraseIdx i.toNat)) (.lst (zs.eraseIdx i.toNat)) from r2.eraseIdx _)) ru hk⟩
    have : ixN us.length i = some i.toNat := by
      unfold ixN
      rw [if_pos hi.1, if_pos (by omega)]
    exact (ixN_seq this).1
theorem pd_popAt {apos : Pos} (ho : PD X A o d) (ha : PAD X A [e] t)
    (hbase : attributeBase o "pop" X.env (eval o X.env) = eval o X.env := by rfl)
    (hfew : ((backTo pos (starEach [e] X.env)).all (fun x => !x.1) && (backToKw pos (keywordEach [] X.env)).all (fun x => x.1.isSome)
      && decide ([e].length + ([] : List Keyword).length + (if ([] : List Keyword).isEmpty then 0 else 1) < 30)) = true := by rfl)
    (hline : (apos.endLine == pos.line) = true := by rfl) (hst : starEach [e] X.env = (false, eval e X.env) :: starEach [] X.env := by rfl) (hplain : (backTo pos (starEach [] X.env)).any (·.1) = false := by rfl) :
    PD X A (.Call (.Attribute o "pop" apos) [e] [] pos) (dBM fPopAt d t) := pd_bm PySem.F.slot_list_pop PySem.F.type_list_pop mt_popAt sd_popAt ho ha hbase hfew hline hst hplain
/-- o.remove(k) of a list of ints that has it -/
def dRem (d de : DE) : DE := fun ρ μ k => d ρ μ fun x μ1 => (∃ zs, itemsL μ1 x = some zs) ∧ de ρ μ1 fun y μ2 => lstAt μ2 x fun p zs => match y with
  | .int i => ∃ ns, intsOf zs = some ns ∧ i ∈ ns ∧ k .non (updM μ2 p (.lst ((ns.erase i).map .int)))
  | _ => False
theorem pd_rem {apos : Pos} {de : DE} (hc : X.calm = true) (ho : PD X A o d) (he : PD X A e de) (hbase : attributeBase o "remove" X.env (eval o X.env) = eval o X.env := by rfl)
    (hfew : ((backTo pos (starEach [e] X.env)).all (fun x => !x.1) && (backToKw pos (keywordEach [] X.env)).all (fun x => x.1.isSome)
      && decide (([e] : List Expr).length + ([] : List Keyword).length + (if ([] : List Keyword).isEmpty then 0 else 1) < 30)) = true := by rfl)
    (hline : (apos.endLine == pos.line) = true := by rfl) (hs : starEach [e] X.env = (false, eval e X.env) :: starEach [] X.env := by rfl) (hplain : (backTo pos (starEach [] X.env)).any (·.1) = false := by rfl) :
    PD X A (.Call (.Attribute o "remove" apos) [e] [] pos) (dRem d de) :=
  PE.imp (pe_remX (W := fun _ _ _ _ => False) hc (fun u s' ⟨_, _, _, _, _, _, _, _, _, _, _, _, _, _, _, _, w⟩ => w.elim) ho he hbase hfew hline hs hplain) fun σ H Q q => by
  obtain ⟨Fr, Hf, μ, ρ, k, s, sl, hd, kk⟩ := q
  refine ⟨Fr, Hf, μ, ρ, _, s, sl, hd, fun Hf1 μ1 H1 v x e1 s1 r1 h1 => ?_⟩
  obtain ⟨⟨zs, hz⟩, h2⟩ := h1
  obtain ⟨a, vs, hv, hq, _⟩ := s1.hr.itemsL r1 hz
  refine ⟨tyV_list hv hq, Fr, Hf1, μ1, ρ, _, s1, sl.mono e1, h2, fun Hf2 μ2 H2 w y e2 s2 r2 h3 => ?_⟩
  obtain ⟨p, zs2, us, rfl, rfl, hm, hH, r3, h⟩ := lstAt_ok s2.hr (r1.mono e2) h3
  cases r2 <;> simp only at h
  obtain ⟨ns, hn, hi, hk⟩ := h
  rw [intsOf_eq hn] at r3 hm
  rw [r3.ints_inv] at hH
  exact ⟨p, ns, _, rfl, rfl, hH, fun _ => kk _ _ _ _ _ (e1.trans e2) (s2.set hm (show MOk X.K Hf2 (.lst _) (.lst _) from Reps.ints _)) .non hk, fun z => absurd hi z⟩

/-! ### fields -/
def gFld (C : Addr) (f : Str) (μ : Mu) (x : D) : Option D := match x with
  | .loc p => match μ p with
    | some (.ins C' fs) => if C' = C then fs.lookup f else none
    | _ => none
  | _ => none
theorem Kvs.look {κ : Type} [BEq κ] [LawfulBEq κ] {Hf : Hp} : ∀ {l : List (κ × V)} {m : List (κ × D)} {f : κ} {x : D}, Kvs K Hf l m → m.lookup f = some x → ∃ v, l.lookup f = some v ∧ Rep K Hf v x
  | _, _, _, _, .nil, h => by cases h
  | _, _, f, x, .cons (k := k) (v := v) a t, h => by
    rw [List.lookup_cons] at h ⊢
    cases hb : f == k with
    | true =>
      rw [hb] at h
      cases h
      exact ⟨v, rfl, a⟩
    | false =>
      rw [hb] at h
      exact Kvs.look t h
theorem Kvs.lookN {κ : Type} [BEq κ] [LawfulBEq κ] {Hf : Hp} : ∀ {l : List (κ × V)} {m : List (κ × D)} {f : κ}, Kvs K Hf l m → m.lookup f = none → l.lookup f = none
  | _, _, _, .nil, _ => rfl
  | _, _, f, .cons (k := k) a t, h => by
    rw [List.lookup_cons] at h ⊢
    cases hb : f == k with
    | true =>
      rw [hb] at h
      cases h
    | false =>
      rw [hb] at h
      exact Kvs.lookN t h
theorem insAt_ok {Fr Hf H : Hp} {μ : Mu} {p C : Addr} {fs : List (Str × D)} (s : HR K Fr Hf μ H) (hm : μ p = some (.ins C fs)) : ∃ dx vs, H p = some (.ins C dx vs) ∧ Kvs K Hf vs fs := by
  obtain ⟨_, o, e, ok⟩ := s.mu p _ hm
  obtain ⟨dx, vs, rfl, rs⟩ := ok.ins
  exact ⟨dx, vs, e, rs⟩
theorem pd_fld {C : Addr} {f : Str} (hc : Cls X.K C) (hn : NoAttr X.K C f) (he : PD X A e d) (hb : attributeBase e f X.env (eval e X.env) = eval e X.env := by rfl) : PD X A (.Attribute e f pos) (fun ρ μ k => d ρ μ fun x μ1 => p1 (gFld C f) x μ1 k) :=
  PE.imp (pe_fld he hb) fun σ H Q q => by
    obtain ⟨Fr, Hf, μ, ρ, k, s, sl, hd, kk⟩ := q
    refine ⟨Fr, Hf, μ, ρ, _, s, sl, hd, fun Hf1 μ1 H1 v x e1 s1 r1 h1 => ?_⟩
    obtain ⟨y, hg, hk⟩ := h1
    cases r1 <;> simp only [gFld] at hg <;> try (cases hg; done)
    case loc p =>
      cases hm : μ1 p with
      | none => rw [hm] at hg; cases hg
      | some m =>
        rw [hm] at hg
        cases m <;> simp only at hg <;> try (cases hg; done)
        split at hg
        · next hC =>
          subst hC
          obtain ⟨dx, vs, hH, rs⟩ := insAt_ok s1.hr hm
          obtain ⟨w, hw, rw_⟩ := rs.look hg
          exact ⟨p, _, dx, vs, w, rfl, hH, hc, hn, hw, kk _ _ _ _ _ e1 s1 rw_ hk⟩
        · cases hg
theorem pv_fld {C : Addr} {f : Str} (hc : Cls X.K C) (hn : NoAttr X.K C f) (he : PV X A e ev) (hb : attributeBase e f X.env (eval e X.env) = eval e X.env := by rfl) : PV X A (.Attribute e f pos) (e1 (gFld C f) ev) :=
  (pd_fld hc hn he hb).imp fun ρ μ k h => by
    obtain ⟨d, hd, hk⟩ := h
    unfold e1 at hd
    cases h1 : ev ρ μ with
    | none => rw [h1] at hd; cases hd
    | some x =>
      rw [h1] at hd
      exact ⟨x, h1, d, hd, hk⟩

/-! ### own defs -/
def dsp (K : PySem.W.Frag) (n : Nat) (S : DC) : Sp := fun vs H Q _ => ∃ Fr Hf μ ds k, HR K Fr Hf μ H ∧ Reps K Hf vs ds ∧ ds.length = n ∧ S ds μ k ∧ KK K Amb.none Fr Hf k Q
theorem kk_none {Fr Hf : Hp} {k : DK} {Q : VK} (hA : A.P Fr Hf) (h : KK K A Fr Hf k Q) : KK K Amb.none Fr Hf k Q := fun Hf' μ' H' v x e s r hk => h _ _ _ _ _ e ⟨s.hr, A.mono (Same.refl _) e hA⟩ r hk
theorem dsp_len {n : Nat} {S : DC} {vs : List V} {H : Hp} {Q : VK} {E : XK} (h : dsp K n S vs H Q E) : vs.length = n := by
  obtain ⟨Fr, Hf, μ, ds, k, s, r, hn, _⟩ := h
  rw [r.length, hn]
/-- a def as it may be called: n arguments are written, the values ds fill up -/
def FnB (P : Program) (w : World) (K : PySem.W.Frag) (mg : Str → Option Value) (base : Heap) (k : Nat) (x : Str) (dvs : List D) (m : Nat) (S : DC) : Prop :=
  ∃ (f : Addr) (fd : FuncData) (ps : List Str) (vs : List V) (us : List Value), FnOk P w K mg base CX0 k f fd ps (dsp K m S) ∧ mg x = some (.ref f) ∧ PySem.W.keepIn K (.ref f) = true ∧ Binds K fd ps us ∧ Vals vs us ∧ ∀ H, Reps K H vs dvs
theorem FnB.imp {P : Program} {w : World} {mg : Str → Option Value} {base : Heap} {k m : Nat} {x : Str} {dvs : List D} {S S' : DC} (B : FnB P w K mg base k x dvs m S) (h : ∀ ds μ k, ds.length = m → S' ds μ k → S ds μ k) : FnB P w K mg base k x dvs m S' := by
  obtain ⟨f, fd, ps, vs, us, F, r⟩ := B
  refine ⟨f, fd, ps, vs, us, F.imp fun vs H Q E q => ?_, r⟩
  obtain ⟨Fr, Hf, μ, ds, k, s, rs, hn, hS, kk⟩ := q
  exact ⟨Fr, Hf, μ, ds, k, s, rs, hn, h _ _ _ hn hS, kk⟩
def dFn (S : DC) (dvs : List D) (m : Nat) (t : DA) : DE := fun ρ μ k => t ρ μ fun xs μ1 => (xs ++ dvs).length = m ∧ S (xs ++ dvs) μ1 k
theorem fn_ok {S : DC} {dvs : List D} {m : Nat} {vs : List V} {E : XK} {σ : Sg} {H : Hp} {Q : VK} (hv : ∀ H, Reps K H vs dvs) (q : tD K A (dFn S dvs m t) σ H Q) : tCall (dsp K m S) vs E (tDA K A t) σ H Q := by
  obtain ⟨Fr, Hf, μ, ρ, k, s, sl, hd, kk⟩ := q
  refine ⟨Fr, Hf, μ, ρ, _, s, sl, hd, fun Hf1 μ1 H1 us xs e1 s1 r1 h1 => ?_⟩
  exact ⟨Fr, Hf1, μ1, _, k, s1.hr, r1.append (hv _), h1.1, h1.2, kk_none s1.am (kk.go e1)⟩
section
variable {k j m : Nat} {x : Str} {p : Pos} {dvs : List D} {S : DC} {g : Mu → List D → Option D}
theorem pd_fn (B : FnB X.prog X.w X.K X.mg X.base k x dvs m S) (hr : Room j X.A) (hg : Gl X x) (ha : PAD X A (e :: es) t) (hk : k ≤ j := by decide) (hdb : (x == ("__debug__" : Str)) = false := by decide)
    (he : starEach (e :: es) X.env = (false, eval e X.env) :: starEach es X.env := by rfl) (hpl : (backTo pos (starEach es X.env)).any (·.1) = false := by rfl) :
    PD X A (.Call (.Name x p) (e :: es) [] pos) (dFn S dvs m t) := by
  obtain ⟨f, fd, ps, vs, us, F, hm, hkp, hb, hd, hv⟩ := B
  exact PE.imp (pe_call F (hr.mono hk) hg hm hkp hb hd (pass0 (X := X)) ha hdb he hpl) fun _ _ _ q => fn_ok hv q
theorem pd_fn0 (B : FnB X.prog X.w X.K X.mg X.base k x dvs m S) (hr : Room j X.A) (hg : Gl X x) (hk : k ≤ j := by decide) (hdb : (x == ("__debug__" : Str)) = false := by decide) :
    PD X A (.Call (.Name x p) [] [] pos) (dFn S dvs m dNil) := by
  obtain ⟨f, fd, ps, vs, us, F, hm, hkp, hb, hd, hv⟩ := B
  refine PE.imp (pe_call0 F (hr.mono hk) hg hm hkp hb hd (pass0 (X := X)) hdb) fun σ H Q q => ?_
  obtain ⟨Fr, Hf, μ, ρ, k, s, sl, hd, kk⟩ := q
  exact ⟨Fr, Hf, μ, _, k, s.hr, (Reps.nil).append (hv _), hd.1, hd.2, kk_none s.am kk⟩
theorem dP_fn {dvs : List D} {m : Nat} {g : Mu → List D → Option D} : ∀ ρ μ k, dP (eN (fun μ xs => if (xs ++ dvs).length = m then g μ (xs ++ dvs) else none) ts) ρ μ k → dFn (pN g) dvs m (dPA ts) ρ μ k := fun ρ μ k h => by
  obtain ⟨d, hd, hk⟩ := h
  unfold eN at hd
  cases h1 : ts ρ μ with
  | none => rw [h1] at hd; cases hd
  | some xs =>
    rw [h1] at hd
    simp only [Option.bind_some] at hd
    split at hd
    · next hc => exact ⟨xs, h1, hc, d, hd, hk⟩
    · cases hd
def eFn (g : Mu → List D → Option D) (dvs : List D) (m : Nat) (ts : EvA) (ρ : Ro) (μ : Mu) : Option D := eN (fun μ xs => if (xs ++ dvs).length = m then g μ (xs ++ dvs) else none) ts ρ μ
theorem pv_fn (B : FnB X.prog X.w X.K X.mg X.base k x dvs m (pN g)) (hr : Room j X.A) (hg : Gl X x) (ha : PAV X A (e :: es) ts) (hk : k ≤ j := by decide) (hdb : (x == ("__debug__" : Str)) = false := by decide)
    (he : starEach (e :: es) X.env = (false, eval e X.env) :: starEach es X.env := by rfl) (hpl : (backTo pos (starEach es X.env)).any (·.1) = false := by rfl) :
    PV X A (.Call (.Name x p) (e :: es) [] pos) (eFn g dvs m ts) := (pd_fn B hr hg ha hk hdb he hpl).imp dP_fn
end
/-! ### own methods -/
/-- method m of the class at C: itself the first argument -/
def MtB (P : Program) (w : World) (K : PySem.W.Frag) (mg : Str → Option Value) (base : Heap) (k : Nat) (C : Addr) (x : Str) (m : Nat) (S : DC) : Prop :=
  ∃ (f : Addr) (fd : FuncData) (ps : List Str), FnOk P w K mg base CX0 k f fd ps (dsp K m S) ∧ Meth K C x f ∧ Binds K fd ps []
/-- the instance at x has no attribute of that name -/
def insNo (C : Addr) (m : Str) (μ : Mu) (x : D) : Prop := match x with
  | .loc p => ∃ fs, μ p = some (.ins C fs) ∧ fs.lookup m = none
  | _ => False
def dMt (C : Addr) (x : Str) (S : DC) (m : Nat) (d : DE) (t : DA) : DE := fun ρ μ k => d ρ μ fun y μ1 => insNo C x μ1 y ∧ t ρ μ1 fun xs μ2 => (y :: xs).length = m ∧ S (y :: xs) μ2 k
theorem mt_ok {C : Addr} {x : Str} {S : DC} {m : Nat} {E : XK} {σ : Sg} {H : Hp} {Q : VK} (q : tD K A (dMt C x S m d t) σ H Q) : tMeth C x (dsp K m S) [] E (tD K A d) (tDA K A t) σ H Q := by
  obtain ⟨Fr, Hf, μ, ρ, k, s, sl, hd, kk⟩ := q
  refine ⟨Fr, Hf, μ, ρ, _, s, sl, hd, fun Hf1 μ1 H1 v y e1 s1 r1 h1 => ?_⟩
  obtain ⟨h2, h3⟩ := h1
  cases r1 <;> simp only [insNo] at h2
  case loc p =>
    obtain ⟨fs, hm, hl⟩ := h2
    obtain ⟨dx, vs, hH, rs⟩ := insAt_ok s1.hr hm
    refine ⟨p, dx, vs, rfl, hH, rs.lookN hl, Fr, Hf1, μ1, ρ, _, s1, sl.mono e1, h3, fun Hf2 μ2 H2 us xs e2 s2 r2 h4 => ?_⟩
    refine ⟨Fr, Hf2, μ2, _, k, s2.hr, .cons .loc (by rw [List.append_nil]; exact r2), h4.1, h4.2, kk_none s2.am (kk.go (e1.trans e2))⟩
section
variable {k j m : Nat} {x : Str} {C : Addr} {apos : Pos} {S : DC}
theorem pd_mt {pl : Sem Bool} (B : MtB X.prog X.w X.K X.mg X.base k C x m S) (hc : Cls X.K C) (hr : Room j X.A) (ho : PD X A o d) (ha : PAD X A (e :: es) t) (hk : k ≤ j := by decide)
    (hst : starEach (e :: es) X.env = (false, eval e X.env) :: starEach es X.env := by rfl) (hpl : (backTo pos (starEach es X.env)).any (·.1) = false := by rfl)
    (ht : eval (.Call (.Attribute o x apos) (e :: es) [] pos) X.env = (do
      let ov ← eval o X.env
      standAt apos.atName
      let (f, first) ← holding [ov] (getMethod ov x pl)
      callWith pos f first (backTo pos (starEach (e :: es) X.env)) (backToKw pos (keywordEach [] X.env))) := by rfl) :
    PD X A (.Call (.Attribute o x apos) (e :: es) [] pos) (dMt C x S m d t) := by
  obtain ⟨f, fd, ps, F, hm, hb⟩ := B
  exact PE.imp (pe_meth ho hc hm F (hr.mono hk) hb .nil (pass0 (X := X)) ha hst hpl ht) fun _ _ _ q => mt_ok q
theorem pd_mt0 {pl : Sem Bool} (B : MtB X.prog X.w X.K X.mg X.base k C x m S) (hc : Cls X.K C) (hr : Room j X.A) (ho : PD X A o d) (hk : k ≤ j := by decide)
    (ht : eval (.Call (.Attribute o x apos) [] [] pos) X.env = (do
      let ov ← eval o X.env
      standAt apos.atName
      let (f, first) ← holding [ov] (getMethod ov x pl)
      callWith pos f first (backTo pos (starEach [] X.env)) (backToKw pos (keywordEach [] X.env))) := by rfl) :
    PD X A (.Call (.Attribute o x apos) [] [] pos) (dMt C x S m d dNil) := by
  obtain ⟨f, fd, ps, F, hm, hb⟩ := B
  refine PE.imp (pe_meth0 ho hc hm F (hr.mono hk) hb .nil (pass0 (X := X)) ht) fun σ H Q q => ?_
  have q1 := mt_ok (E := E0) q
  obtain ⟨Fr, Hf, μ, ρ, k, s, sl, hd, kk⟩ := q1
  refine ⟨Fr, Hf, μ, ρ, k, s, sl, hd, fun Hf1 μ1 H1 v y e1 s1 r1 h1 => ?_⟩
  obtain ⟨a, dx, fs, h2, h3, h4, h5⟩ := kk _ _ _ _ _ e1 s1 r1 h1
  refine ⟨a, dx, fs, h2, h3, h4, ?_⟩
  obtain ⟨Fr, Hf, μ, ρ, k, s, sl, hd, kk⟩ := h5
  exact kk _ _ _ _ _ (Same.refl _) s .nil hd
end
end
end DL
end

section
set_option maxRecDepth 100000
/-! DL6: statements, targets, loops. -/
namespace DL
open PySem PySem.Spec PyProof.Rows L2

structure DEnds where
  nx : Ro → Mu → Prop
  rt : DK
  bk : Ro → Mu → Prop := fun _ _ => False
  ct : Ro → Mu → Prop := fun _ _ => False
abbrev DS := DEnds → Ro → Mu → Prop
abbrev DG := D → Ro → Mu → (Ro → Mu → Prop) → Prop
abbrev DGs := List D → Ro → Mu → (Ro → Mu → Prop) → Prop

def KN (K : PySem.W.Frag) (A : Amb) (Fr Hf : Hp) (k : Ro → Mu → Prop) (Q : Sg → Hp → Prop) : Prop := ∀ Hf' μ' H' σ' ρ', Same Hf Hf' → RS K A Fr Hf' μ' H' → SlR K Hf' σ' ρ' → k ρ' μ' → Q σ' H'
structure KS (K : PySem.W.Frag) (A : Amb) (Fr Hf : Hp) (D : DEnds) (E : Ends) : Prop where
  nx : KN K A Fr Hf D.nx E.nx
  rt : KK K A Fr Hf D.rt E.rt
  bk : KN K A Fr Hf D.bk E.bk
  ct : KN K A Fr Hf D.ct E.ct
section
variable {K : PySem.W.Frag} {A : Amb} {Fr Hf Hf1 H : Hp} {μ : Mu}
theorem KN.go {k : Ro → Mu → Prop} {Q : Sg → Hp → Prop} (h : KN K A Fr Hf k Q) (e : Same Hf Hf1) : KN K A Fr Hf1 k Q := fun _ _ _ _ _ e2 => h _ _ _ _ _ (e.trans e2)
theorem KS.go {D : DEnds} {E : Ends} (h : KS K A Fr Hf D E) (e : Same Hf Hf1) : KS K A Fr Hf1 D E := ⟨h.nx.go e, h.rt.go e, h.bk.go e, h.ct.go e⟩
end
def tDS (K : PySem.W.Frag) (A : Amb) (d : DS) : TS := fun E σ H => ∃ Fr Hf μ ρ D, RS K A Fr Hf μ H ∧ SlR K Hf σ ρ ∧ d D ρ μ ∧ KS K A Fr Hf D E
def PSD (X : Cx) (A : Amb) (st : Stmt) (d : DS) : Prop := PS X st (tDS X.K A d)
def PSsD (X : Cx) (A : Amb) (sts : List Stmt) (d : DS) : Prop := PSs X sts (tDS X.K A d)
/-- targets: ws the slots that may change -/
def KG (σ : Sg) (ws : List Nat) (σ' : Sg) : Prop := σ'.length = σ.length ∧ ∀ i, i ∉ ws → σ'[i]? = σ[i]?
def tDG (K : PySem.W.Frag) (A : Amb) (g : DG) (ws : List Nat) : TG := fun v σ H Q => ∃ Fr Hf μ ρ x k, RS K A Fr Hf μ H ∧ SlR K Hf σ ρ ∧ Rep K Hf v x ∧ g x ρ μ k ∧
  ∀ Hf' μ' H' σ' ρ', Same Hf Hf' → RS K A Fr Hf' μ' H' → SlR K Hf' σ' ρ' → KG σ ws σ' → k ρ' μ' → Q σ' H'
def tDGs (K : PySem.W.Frag) (A : Amb) (g : DGs) (ws : List Nat) : TGs := fun vs σ H Q => ∃ Fr Hf μ ρ xs k, RS K A Fr Hf μ H ∧ SlR K Hf σ ρ ∧ Reps K Hf vs xs ∧ g xs ρ μ k ∧
  ∀ Hf' μ' H' σ' ρ', Same Hf Hf' → RS K A Fr Hf' μ' H' → SlR K Hf' σ' ρ' → KG σ ws σ' → k ρ' μ' → Q σ' H'
def PGD (X : Cx) (A : Amb) (tg : Expr) (g : DG) (ws : List Nat) : Prop := PG X tg (tDG X.K A g ws)
def PGsD (X : Cx) (A : Amb) (tgs : List Expr) (g : DGs) (ws : List Nat) : Prop := PGs X tgs (tDGs X.K A g ws)
section
variable {X : Cx} {A : Amb} {e a b c tg : Expr} {st : Stmt} {sts rest : List Stmt} {pos : Pos} {es : List Expr}
theorem PS.imp {t t' : TS} (h : PS X st t) (i : ∀ D σ H, t' D σ H → t D σ H) : PS X st t' := ⟨fun pins s σ H D I q => h.run pins s σ H D I (i _ _ _ q)⟩
theorem PSs.imp {t t' : TS} (h : PSs X sts t) (i : ∀ D σ H, t' D σ H → t D σ H) : PSs X sts t' := ⟨fun pins s σ H D I q => h.run pins s σ H D I (i _ _ _ q)⟩
theorem PG.imp {t t' : TG} (h : PG X e t) (i : ∀ v σ H Q, t' v σ H Q → t v σ H Q) : PG X e t' := ⟨fun pins s σ H v u Q I r q => h.run pins s σ H v u Q I r (i _ _ _ _ q)⟩
theorem PGs.imp {t t' : TGs} (h : PGs X es t) (i : ∀ v σ H Q, t' v σ H Q → t v σ H Q) : PGs X es t' := ⟨fun pins s σ H v u Q I r q => h.run pins s σ H v u Q I r (i _ _ _ _ q)⟩
/-! ### targets -/
theorem KG.refl (σ : Sg) (ws : List Nat) : KG σ ws σ := ⟨rfl, fun _ _ => rfl⟩
theorem KG.trans {σ σ1 σ2 : Sg} {ws us : List Nat} (a : KG σ ws σ1) (b : KG σ1 us σ2) : KG σ (ws ++ us) σ2 := ⟨b.1.trans a.1, fun i hi => by
  rw [List.mem_append, not_or] at hi
  rw [b.2 i hi.2, a.2 i hi.1]⟩
theorem KG.set (σ : Sg) (i : Nat) (o : Option V) : KG σ [i] (σ.set i o) := ⟨List.length_set, fun j hj => by
  rw [List.getElem?_set_ne]
  intro h
  exact hj (by rw [h]; exact List.mem_singleton_self _)⟩
def dgName (i : Nat) : DG := fun x ρ μ k => k (setS ρ i (some x)) μ
def dgNil : DGs := fun xs ρ μ k => xs = [] ∧ k ρ μ
def dgCons (g : DG) (gs : DGs) : DGs := fun xs ρ μ k => match xs with
  | x :: r => g x ρ μ fun ρ1 μ1 => gs r ρ1 μ1 k
  | [] => False
/-- of a tuple, of a list -/
def dgTup (n : Nat) (gs : DGs) : DG := fun x ρ μ k => ∃ xs, itemsT x = some xs ∧ xs.length = n ∧ gs xs ρ μ k
def dgUnl (n : Nat) (gs : DGs) : DG := fun x ρ μ k => ∃ xs, itemsL μ x = some xs ∧ xs.length = n ∧ gs xs ρ μ k
theorem pgd_name {i : Nat} {x : Str} (hN : X.N.Nodup) (hi : X.N[i]? = some x := by rfl) (hx : Loc X.env.scope x := by first | exact Or.inl rfl | exact Or.inr rfl) (hf : X.fn x = true ∨ X.env.scope.names.lookup x = some .local := by first | exact .inl rfl | exact .inr rfl) : PGD X A (.Name x pos) (dgName i) [i] :=
  PG.imp (pg_name hN hi hx hf) fun v σ H Q q => by
    obtain ⟨Fr, Hf, μ, ρ, x, k, s, sl, r, hd, kk⟩ := q
    exact kk _ _ _ _ _ (Same.refl _) s (sl.set r i) (KG.set σ i _) hd
theorem pgsd_nil : PGsD X A [] dgNil [] := PGs.imp pgs_nil fun v σ H Q q => by
  obtain ⟨Fr, Hf, μ, ρ, xs, k, s, sl, r, ⟨hx, hd⟩, kk⟩ := q
  subst hx
  cases r
  exact ⟨rfl, kk _ _ _ _ _ (Same.refl _) s sl (KG.refl _ _) hd⟩
theorem pgsd_cons {g : DG} {gs : DGs} {ws us : List Nat} (h1 : PGD X A e g ws) (h2 : PGsD X A es gs us)
    (hs : (assignEach (e :: es) X.env).map (·.2) = assign e X.env :: (assignEach es X.env).map (·.2) := by rfl) : PGsD X A (e :: es) (dgCons g gs) (ws ++ us) :=
  PGs.imp (pgs_cons h1 h2 hs) fun v σ H Q q => by
    obtain ⟨Fr, Hf, μ, ρ, xs, k, s, sl, r, hd, kk⟩ := q
    cases r with
    | nil => exact hd.elim
    | cons ra rt =>
      refine ⟨_, _, rfl, Fr, Hf, μ, ρ, _, _, s, sl, ra, hd, fun Hf1 μ1 H1 σ1 ρ1 e1 s1 sl1 kg1 h1 => ?_⟩
      exact ⟨Fr, Hf1, μ1, ρ1, _, _, s1, sl1, rt.mono e1, h1, fun Hf2 μ2 H2 σ2 ρ2 e2 s2 sl2 kg2 h2 => kk _ _ _ _ _ (e1.trans e2) s2 sl2 (kg1.trans kg2) h2⟩
theorem pgd_tup {gs : DGs} {ws : List Nat} {k n : _} (hc : X.calm = true) (h : PGsD X A es gs ws)
    (hn : (assignEach es X.env).length = n := by rfl) (hst : (assignEach es X.env).findIdx? (·.1) = none := by rfl) : PGD X A (.Tuple es k pos) (dgTup n gs) ws :=
  PG.imp (pg_tup hc h hn hst) fun v σ H Q q => by
    obtain ⟨Fr, Hf, μ, ρ, x, k, s, sl, r, ⟨xs, hx, hl, hd⟩, kk⟩ := q
    obtain ⟨a, vs, rfl, ha, rs⟩ := s.hr.itemsT r hx
    exact ⟨a, vs, rfl, .inl (.inl ha), by rw [rs.length, hl], Fr, Hf, μ, ρ, xs, k, s, sl, rs, hd, kk⟩
theorem pgd_unl {gs : DGs} {ws : List Nat} {k n : _} (hc : X.calm = true) (h : PGsD X A es gs ws)
    (hn : (assignEach es X.env).length = n := by rfl) (hst : (assignEach es X.env).findIdx? (·.1) = none := by rfl) : PGD X A (.Tuple es k pos) (dgUnl n gs) ws :=
  PG.imp (pg_unl hc h hn hst) fun v σ H Q q => by
    obtain ⟨Fr, Hf, μ, ρ, x, k, s, sl, r, ⟨xs, hx, hl, hd⟩, kk⟩ := q
    obtain ⟨a, vs, rfl, ha, rs⟩ := s.hr.itemsL r hx
    exact ⟨a, vs, rfl, ha, by rw [rs.length, hl], Fr, Hf, μ, ρ, xs, k, s, sl, rs, hd, kk⟩
/-- o[i] = v of a list that may change -/
def dgSub (do_ di : DE) : DG := fun x ρ μ k => do_ ρ μ fun o μ1 => di ρ μ1 fun i μ2 => lstAt μ2 o fun p zs => match i with
  | .int j => ∃ n, ixN zs.length j = some n ∧ k ρ (updM μ2 p (.lst (zs.set n x)))
  | _ => False
theorem pgd_sub {o i : Expr} {dO dI : DE} (ho : PD X A o dO) (hi : PD X A i dI)
    (ha : ∀ v, assign (.Subscript o i pos) X.env v = (do
      let ov ← holding [v] (eval o X.env)
      let iv ← holding [v, ov] (eval i X.env)
      standAt pos
      holding [v, ov, iv] (setItem ov iv v)
      release [v, ov, iv] []) := by intro _; rfl) : PGD X A (.Subscript o i pos) (dgSub dO dI) [] :=
  PG.imp (pg_sub ho hi set_list ha) fun v σ H Q q => by
    obtain ⟨Fr, Hf, μ, ρ, x, k, s, sl, r, hd, kk⟩ := q
    refine ⟨Fr, Hf, μ, ρ, _, s, sl, hd, fun Hf1 μ1 H1 w y e1 s1 r1 h1 => ?_⟩
    refine ⟨Fr, Hf1, μ1, ρ, _, s1, sl.mono e1, h1, fun Hf2 μ2 H2 u z e2 s2 r2 h2 => ?_⟩
    obtain ⟨p, zs, us, rfl, rfl, hm, hH, r3, h3⟩ := lstAt_ok s2.hr (r1.mono e2) h2
    cases r2 <;> simp only at h3
    obtain ⟨n, hn, hk⟩ := h3
    refine ⟨p, us, _, n, rfl, rfl, hH, by rw [r3.length]; exact hn, ?_⟩
    exact kk _ _ _ _ _ (e1.trans e2) (s2.set hm (show MOk X.K Hf2 (.lst _) (.lst _) from r3.set (r.mono (e1.trans e2)) n)) (sl.mono (e1.trans e2)) (KG.refl _ _) hk
/-! ### simple statements -/
def sNext : DS := fun D ρ μ => D.nx ρ μ
def sSeq (t u : DS) : DS := fun D ρ μ => t { D with nx := u D } ρ μ
def sRet (d : DE) : DS := fun D ρ μ => d ρ μ D.rt
def sRetN : DS := fun D ρ μ => D.rt .non μ
def sDrop (d : DE) : DS := fun D ρ μ => d ρ μ fun _ μ1 => D.nx ρ μ1
def sAsg (d : DE) (g : DG) : DS := fun D ρ μ => d ρ μ fun x μ1 => g x ρ μ1 D.nx
def sIf (t : DT) (u w : DS) : DS := fun D ρ μ => t ρ μ fun c μ1 => if c = true then u D ρ μ1 else w D ρ μ1
def sBrk : DS := fun D ρ μ => D.bk ρ μ
def sCnt : DS := fun D ρ μ => D.ct ρ μ
def sNever : DS := fun _ _ _ => False
variable {u w : DS} {d : DE}
theorem psd_nil : PSsD X A [] sNext := PSs.imp pss_nil fun D σ H q => by
  obtain ⟨Fr, Hf, μ, ρ, D', s, sl, hd, ks⟩ := q
  exact ks.nx _ _ _ _ _ (Same.refl _) s sl hd
theorem psd_cons (h1 : PSD X A st u) (h2 : PSsD X A rest w) : PSsD X A (st :: rest) (sSeq u w) := PSs.imp (pss_cons h1 h2) fun D σ H q => by
  obtain ⟨Fr, Hf, μ, ρ, D', s, sl, hd, ks⟩ := q
  refine ⟨Fr, Hf, μ, ρ, _, s, sl, hd, ⟨fun Hf1 μ1 H1 σ1 ρ1 e1 s1 sl1 h1 => ?_, ks.rt, ks.bk, ks.ct⟩⟩
  exact ⟨Fr, Hf1, μ1, ρ1, D', s1, sl1, h1, ks.go e1⟩
theorem psd_one (h1 : PSD X A st u) : PSsD X A [st] u := pss_one h1
theorem psd_ret (he : PD X A e d) : PSD X A (.Return (some e) pos) (sRet d) := PS.imp (ps_ret he) fun D σ H q => by
  obtain ⟨Fr, Hf, μ, ρ, D', s, sl, hd, ks⟩ := q
  exact ⟨Fr, Hf, μ, ρ, _, s, sl, hd, ks.rt⟩
theorem psd_retN : PSD X A (.Return none pos) sRetN := PS.imp ps_retN fun D σ H q => by
  obtain ⟨Fr, Hf, μ, ρ, D', s, sl, hd, ks⟩ := q
  exact ks.rt _ _ _ _ _ (Same.refl _) s .non hd
theorem psd_drop (he : PD X A e d) (hs : swapsWith e none pos.line X.env = pure false := by rfl) : PSD X A (.Expr e pos) (sDrop d) := PS.imp (ps_expr he hs) fun D σ H q => by
  obtain ⟨Fr, Hf, μ, ρ, D', s, sl, hd, ks⟩ := q
  exact ⟨Fr, Hf, μ, ρ, _, s, sl, hd, fun Hf1 μ1 H1 v x e1 s1 r1 h1 => ks.nx _ _ _ _ _ e1 s1 (sl.mono e1) h1⟩
theorem psd_asg {g : DG} {ws : List Nat} (he : PD X A e d) (hg : PGD X A tg g ws) (hs : swapsWithSole [tg] e pos.line X.env = pure false := by rfl) (hw : swappedStores [tg] e X.env = pure none := by rfl)
    (h1 : (assignEach [tg] X.env).map (·.2) = [assign tg X.env] := by rfl) : PSD X A (.Assign [tg] e pos) (sAsg d g) := PS.imp (ps_asg he hg hs hw h1) fun D σ H q => by
  obtain ⟨Fr, Hf, μ, ρ, D', s, sl, hd, ks⟩ := q
  refine ⟨Fr, Hf, μ, ρ, _, s, sl, hd, fun Hf1 μ1 H1 v x e1 s1 r1 h1 => ?_⟩
  exact ⟨Fr, Hf1, μ1, ρ, x, _, s1, sl.mono e1, r1, h1, fun Hf2 μ2 H2 σ2 ρ2 e2 s2 sl2 _ h2 => ks.nx _ _ _ _ _ (e1.trans e2) s2 sl2 h2⟩
/-- name = e -/
theorem psd_set {i : Nat} {x : Str} {pos' : Pos} (hN : X.N.Nodup) (he : PD X A e d) (hi : X.N[i]? = some x := by rfl) (hx : Loc X.env.scope x := by first | exact Or.inl rfl | exact Or.inr rfl) (hs : swapsWith e (some (.Name x pos')) pos.line X.env = pure false := by rfl)
    (hf : X.fn x = true ∨ X.env.scope.names.lookup x = some .local := by first | exact .inl rfl | exact .inr rfl) : PSD X A (.Assign [.Name x pos'] e pos) (sAsg d (dgName i)) := PS.imp (ps_set hN hi hx he hs hf) fun D σ H q => by
  obtain ⟨Fr, Hf, μ, ρ, D', s, sl, hd, ks⟩ := q
  refine ⟨Fr, Hf, μ, ρ, _, s, sl, hd, fun Hf1 μ1 H1 v x e1 s1 r1 h1 => ?_⟩
  exact ks.nx _ _ _ _ _ e1 s1 ((sl.mono e1).set r1 i) h1
/-- a, b = x, y of plain local names -/
def sPar (i j : Nat) (t : DA) : DS := fun D ρ μ => t ρ μ fun xs μ1 => match xs with
  | [x, y] => D.nx (setS (setS ρ i (some x)) j (some y)) μ1
  | _ => False
theorem psd_par {i j : Nat} {x y : Str} {t : DA} {px py pt : Pos} {kt k2 pt2} (hc : X.calm = true) (hN : X.N.Nodup) (ha : PAD X A [a, b] t) (hi : X.N[i]? = some x := by rfl) (hj : X.N[j]? = some y := by rfl) (hij : i ≠ j := by decide)
    (hx : X.env.scope.names.lookup x = some .local := by rfl) (hy : X.env.scope.names.lookup y = some .local := by rfl)
    (hw : swappedStores [.Tuple [.Name x px, .Name y py] kt pt] (.Tuple [a, b] k2 pt2) X.env = pure (some [x, y]) := by rfl)
    (hs : swapsWithSole [.Tuple [.Name x px, .Name y py] kt pt] (.Tuple [a, b] k2 pt2) pos.line X.env = pure false := by rfl) :
    PSD X A (.Assign [.Tuple [.Name x px, .Name y py] kt pt] (.Tuple [a, b] k2 pt2) pos) (sPar i j t) := PS.imp (ps_par hc hN hi hj hij hx hy ha hw hs) fun D σ H q => by
  obtain ⟨Fr, Hf, μ, ρ, D', s, sl, hd, ks⟩ := q
  refine ⟨Fr, Hf, μ, ρ, _, s, sl, hd, fun Hf1 μ1 H1 vs xs e1 s1 r1 h1 => ?_⟩
  match xs, h1 with
  | [x, y], h1 =>
    obtain ⟨v, w, rfl, rv, rw_⟩ := r1.two_inv
    exact ⟨v, w, rfl, ks.nx _ _ _ _ _ e1 s1 (((sl.mono e1).set rv i).set rw_ j) h1⟩
theorem psd_if {t : DT} {sa sb : List Stmt} (hc : PTD X A c t) (ha : PSsD X A sa u) (hb : PSsD X A sb w) : PSD X A (.If c sa sb pos) (sIf t u w) := PS.imp (ps_if hc ha hb) fun D σ H q => by
  obtain ⟨Fr, Hf, μ, ρ, D', s, sl, hd, ks⟩ := q
  refine ⟨Fr, Hf, μ, ρ, _, s, sl, hd, fun Hf1 μ1 H1 c e1 s1 h1 => ?_⟩
  split at h1
  · next hc =>
    rw [if_pos hc]
    exact ⟨Fr, Hf1, μ1, ρ, D', s1, sl.mono e1, h1, ks.go e1⟩
  · next hc =>
    rw [if_neg hc]
    exact ⟨Fr, Hf1, μ1, ρ, D', s1, sl.mono e1, h1, ks.go e1⟩
theorem psd_pass : PSD X A (.Pass pos) sNext := PS.imp ps_pass fun D σ H q => by
  obtain ⟨Fr, Hf, μ, ρ, D', s, sl, hd, ks⟩ := q
  exact ks.nx _ _ _ _ _ (Same.refl _) s sl hd
theorem psd_brk : PSD X A (.Break pos) sBrk := PS.imp ps_break fun D σ H q => by
  obtain ⟨Fr, Hf, μ, ρ, D', s, sl, hd, ks⟩ := q
  exact ks.bk _ _ _ _ _ (Same.refl _) s sl hd
theorem psd_cnt : PSD X A (.Continue pos) sCnt := PS.imp ps_continue fun D σ H q => by
  obtain ⟨Fr, Hf, μ, ρ, D', s, sl, hd, ks⟩ := q
  exact ks.ct _ _ _ _ _ (Same.refl _) s sl hd
theorem psd_never : PSD X A st sNever := PS.imp ps_never fun D σ H q => by
  obtain ⟨Fr, Hf, μ, ρ, D', s, sl, hd, ks⟩ := q
  exact hd
/-! ### while -/
def sWhile (t : DT) (u : DS) : DS := fun D ρ μ => ∃ W : Nat → Ro → Mu → Prop, (∃ m, W m ρ μ) ∧ ∀ m ρ μ, W m ρ μ → t ρ μ fun b μ1 => if b = true then ∃ N : Ro → Mu → Prop, (∀ ρ' μ', N ρ' μ' → ∃ m', m' < m ∧ W m' ρ' μ') ∧ u { D with nx := N, ct := N, bk := D.nx } ρ μ1 else D.nx ρ μ1
theorem psd_while {t : DT} {body : List Stmt} (hp : PassesOwn (model X.prog X.w) X.A X.env X.xe) (hc : PTD X A c t) (hb : PSsD X A body u) : PSD X A (.While c body [] pos) (sWhile t u) := PS.imp (ps_while hp hc hb) fun D σ H q => by
  obtain ⟨Fr, Hf, μ, ρ, D', s, sl, ⟨W, ⟨m, hm⟩, hW⟩, ks⟩ := q
  refine ⟨fun m σ H => ∃ Hf1 μ1 ρ1, Same Hf Hf1 ∧ RS X.K A Fr Hf1 μ1 H ∧ SlR X.K Hf1 σ ρ1 ∧ W m ρ1 μ1, ⟨m, Hf, μ, ρ, Same.refl _, s, sl, hm⟩, fun m σ H h => ?_⟩
  obtain ⟨Hf1, μ1, ρ1, e1, s1, sl1, h1⟩ := h
  refine ⟨Fr, Hf1, μ1, ρ1, _, s1, sl1, hW _ _ _ h1, fun Hf2 μ2 H2 b e2 s2 h2 => ?_⟩
  split at h2
  · next hb =>
    rw [if_pos hb]
    obtain ⟨N, hN, h3⟩ := h2
    have kn : KN X.K A Fr Hf2 N fun σ H => ∃ ρ' μ' Hf', N ρ' μ' ∧ Same Hf Hf' ∧ RS X.K A Fr Hf' μ' H ∧ SlR X.K Hf' σ ρ' := fun Hf3 μ3 H3 σ3 ρ3 e3 s3 sl3 h3 => ⟨ρ3, μ3, Hf3, h3, e1.trans (e2.trans e3), s3, sl3⟩
    refine ⟨_, fun σ' H' h => ?_, Fr, Hf2, μ2, ρ1, _, s2, sl1.mono e2, h3, ⟨kn, ks.rt.go (e1.trans e2), ks.nx.go (e1.trans e2), kn⟩⟩
    obtain ⟨ρ', μ', Hf', h4, h5, h6, h7⟩ := h
    obtain ⟨m', hlt, hw⟩ := hN _ _ h4
    exact ⟨m', hlt, Hf', μ', ρ', h5, h6, h7, hw⟩
  · next hb =>
    rw [if_neg hb]
    exact ks.nx _ _ _ _ _ (e1.trans e2) s2 (sl1.mono e2) h2
/-! ### for -/
abbrev DI := Ro → Mu → (List D → (Mu → Prop) → Mu → Prop) → Prop
/-- the iterator J yields ds while ok holds -/
def ItOk (K : PySem.W.Frag) (Hf : Hp) (J : It) (ds : List D) (ok : Mu → Prop) : Prop := ∀ A Fr Hf1 μ1 H1 i, Same Hf Hf1 → RS K A Fr Hf1 μ1 H1 → ok μ1 →
  (∀ d, ds[i]? = some d → J.go i H1 ∧ ∀ x H', J.yld i H1 x H' → ∃ Hf2, Same Hf1 Hf2 ∧ RS K A Fr Hf2 μ1 H' ∧ Rep K Hf2 x d) ∧ (i = ds.length → J.stop i H1)
theorem ItOk.mono {K : PySem.W.Frag} {Hf Hf' : Hp} {J : It} {ds : List D} {ok : Mu → Prop} (h : ItOk K Hf J ds ok) (e : Same Hf Hf') : ItOk K Hf' J ds ok := fun A Fr Hf1 μ1 H1 i e1 => h A Fr Hf1 μ1 H1 i (e.trans e1)
def tDI (K : PySem.W.Frag) (A : Amb) (it : DI) : TI := fun σ H R => ∃ Fr Hf μ ρ k, RS K A Fr Hf μ H ∧ SlR K Hf σ ρ ∧ it ρ μ k ∧ ∀ Hf' μ' H' J ds ok, Same Hf Hf' → RS K A Fr Hf' μ' H' → ItOk K Hf' J ds ok → k ds ok μ' → R J H'
def PID (X : Cx) (A : Amb) (tg iter : Expr) (it : DI) : Prop := PI X tg iter (tDI X.K A it)
theorem PI.imp {iter : Expr} {t t' : TI} (h : PI X tg iter t) (i : ∀ σ H R, t' σ H R → t σ H R) : PI X tg iter t' := ⟨fun pins s σ H R I q => h.run pins s σ H R I (i _ _ _ q)⟩
def forL (g : DG) (u : DS) (E : DEnds) (ok : Mu → Prop) : List D → Ro → Mu → Prop
  | [], ρ, μ => ok μ ∧ E.nx ρ μ
  | x :: r, ρ, μ => ok μ ∧ g x ρ μ fun ρ1 μ1 => u { E with nx := forL g u E ok r, ct := forL g u E ok r, bk := E.nx } ρ1 μ1
def sFor (it : DI) (g : DG) (u : DS) : DS := fun D ρ μ => it ρ μ fun ds ok μ1 => forL g u D ok ds ρ μ1
theorem psd_for {iter : Expr} {body : List Stmt} {it : DI} {g : DG} {ws : List Nat} (hp : PassesOwn (model X.prog X.w) X.A X.env X.xe) (hc : X.calm = true) (hi : PID X A tg iter it) (hg : PGD X A tg g ws) (hb : PSsD X A body u)
    (hs : ∀ x, foldedSetIterable iter X.env x = pure x := by intro _; rfl) : PSD X A (.For tg iter body [] pos) (sFor it g u) := PS.imp (ps_for hp hc hi hg hb hs) fun D σ H q => by
  obtain ⟨Fr, Hf, μ, ρ, D', s, sl, hd, ks⟩ := q
  refine ⟨Fr, Hf, μ, ρ, _, s, sl, hd, fun Hf1 μ1 H1 J ds ok e1 s1 io h1 => ?_⟩
  refine ⟨fun i m σ H => ∃ Hf2 μ2 ρ2, Same Hf1 Hf2 ∧ RS X.K A Fr Hf2 μ2 H ∧ SlR X.K Hf2 σ ρ2 ∧ i + m = ds.length ∧ forL g u D' ok (ds.drop i) ρ2 μ2, ⟨ds.length, Hf1, μ1, ρ, Same.refl _, s1, sl.mono e1, Nat.zero_add _, h1⟩, fun i m σ H h => ?_⟩
  obtain ⟨Hf2, μ2, ρ2, e2, s2, sl2, hm, h2⟩ := h
  by_cases hlt : i < ds.length
  · right
    have hdrop : ds.drop i = ds[i] :: ds.drop (i + 1) := List.drop_eq_getElem_cons hlt
    rw [hdrop] at h2
    obtain ⟨hok, h3⟩ := h2
    obtain ⟨hgo, hy⟩ := (io A Fr Hf2 μ2 H i e2 s2 hok).1 _ (List.getElem?_eq_getElem hlt)
    have kn : KN X.K A Fr Hf2 (forL g u D' ok (ds.drop (i + 1))) fun σ H => ∃ Hf3 μ3 ρ3, Same Hf1 Hf3 ∧ RS X.K A Fr Hf3 μ3 H ∧ SlR X.K Hf3 σ ρ3 ∧ (i + 1) + (m - 1) = ds.length ∧ forL g u D' ok (ds.drop (i + 1)) ρ3 μ3 :=
      fun Hf3 μ3 H3 σ3 ρ3 e3 s3 sl3 h4 => ⟨Hf3, μ3, ρ3, e2.trans e3, s3, sl3, by omega, h4⟩
    refine ⟨hgo, _, fun σ' H' h => ⟨m - 1, by omega, h⟩, fun x H' hx => ?_⟩
    obtain ⟨Hf3, e3, s3, r3⟩ := hy x H' hx
    refine ⟨Fr, Hf3, μ2, ρ2, _, _, s3, sl2.mono e3, r3, h3, fun Hf4 μ4 H4 σ4 ρ4 e4 s4 sl4 _ h4 => ?_⟩
    exact ⟨Fr, Hf4, μ4, ρ4, _, s4, sl4, h4, ⟨kn.go (e3.trans e4), ks.rt.go (e1.trans (e2.trans (e3.trans e4))), ks.nx.go (e1.trans (e2.trans (e3.trans e4))), kn.go (e3.trans e4)⟩⟩
  · left
    have hi : i = ds.length := by omega
    rw [List.drop_eq_nil_of_le (by omega)] at h2
    exact ⟨(io A Fr Hf2 μ2 H i e2 s2 h2.1).2 hi, ks.nx _ _ _ _ _ (e1.trans e2) s2 sl2 h2.2⟩
end
end DL
end

section
set_option maxRecDepth 100000
set_option maxHeartbeats 2000000
/-! DLE: enumerate of a tuple. -/
namespace DL
open PySem PySem.Spec PyProof.Rows L2
theorem meets_enumT_new (l : Addr) (items : Array Value) :
    Meets (Builtin.«enumerate.__new__» ⟨[.type "enumerate", .ref l], []⟩) (fun _ R s => s.heap.IsTuple l items ∧
      R (.ok (.ret (.ref (s.heap.push { cls := .type "tuple_iterator", data := .fields #[.ref l, .int 0 0] }).objs.size)))
        { s with heap := (s.heap.push { cls := .type "tuple_iterator", data := .fields #[.ref l, .int 0 0] }).push { cls := .type "enumerate", data := .fields #[.none, .bool false, .ref s.heap.objs.size, rawInt 0, .none, .none] } }) :=
  .of_wp fun prog w A R s h => by
    obtain ⟨hp, g, d, tk, os⟩ := s; obtain ⟨hl, h⟩ := h
    have hsub := sub_enumerate
    have hL : Heap.IsTuple (Shared.heap ⟨hp, g, d, tk, os⟩) l items := hl
    wp_walk using wpAny_pyIter_tuple hL
    refine wpAny_stack_any fun st => wpAny_pure ?_
    split
    · rename_i c _ _ _ _ _
      cases (c == Value.type "enumerate")
      · wp_walk using wpAny_pyIter_tuple hL
        exact ⟨_, rfl, h⟩
      · wp_walk using wpAny_pyIter_tuple hL
        exact ⟨_, rfl, h⟩
    · wp_walk using wpAny_pyIter_tuple hL
      exact ⟨_, rfl, h⟩
section
variable {prog : Program} {w : World} {A : Around} {E : Value → Shared → Prop} {s : Shared}
theorem call_enumT {l : Addr} {items : Array Value} {Q : Value → Shared → Prop} (hL : s.heap.IsTuple l items)
    (h : ∀ h', IsEnum h' (s.heap.objs.size + 1) s.heap.objs.size 0 .none → h'.IsTupleIter s.heap.objs.size l 0 → h'.objs.size = s.heap.objs.size + 2 →
      (∀ b o, s.heap.get? b = some o → h'.get? b = some o) → Q (.ref (s.heap.objs.size + 1)) { s with heap := h' }) :
    wpAny (model prog w) A (call (.type "enumerate") [.ref l]) Q E s := by
  refine callType_new F.called_enumerate (by decide) (F.typeCall_enumerate_1 _) (F.newCall_enumerate_1 _) (fun obj => F.args_object_init_2 obj _) F.entry_enumerate_new
    (meets_enumT_new l items) ⟨hL, ?_⟩
  have hz : (s.heap.push { cls := .type "tuple_iterator", data := .fields #[.ref l, .int 0 0] }).objs.size = s.heap.objs.size + 1 := Heap.size_push ..
  show _ ∧ _
  rw [hz]
  have he : IsEnum ((s.heap.push { cls := .type "tuple_iterator", data := .fields #[.ref l, .int 0 0] }).push
      { cls := .type "enumerate", data := .fields #[.none, .bool false, .ref s.heap.objs.size, rawInt 0, .none, .none] }) (s.heap.objs.size + 1) s.heap.objs.size 0 .none := by
    have := Heap.get?_push_size (s.heap.push { cls := .type "tuple_iterator", data := .fields #[.ref l, .int 0 0] })
      (o := { cls := .type "enumerate", data := .fields #[.none, .bool false, .ref s.heap.objs.size, rawInt 0, .none, .none] }) rfl
    rw [hz] at this; exact this
  refine ⟨⟨_, he, rfl⟩, h _ he ⟨_, Heap.get?_push_of_some _ (Heap.get?_push_size _ rfl), rfl, rfl⟩ (by rw [Heap.size_push, hz]) fun b o x => Heap.get?_push_of_some _ (Heap.get?_push_of_some _ x)⟩
end
def IteT (K : PySem.W.Frag) (a : Addr) : It :=
  ⟨fun i H => ∃ (xs : List V) (x : V), SqT K H a xs ∧ xs[i]? = some x, fun i H v H' => ∃ T x, v = .ref T ∧ H T = none ∧ H' = upd H T (.tup [.int (i : Nat), x]) ∧ ∀ xs, SqT K H a xs → xs[i]? = some x, fun i H => ∃ xs : List V, SqT K H a xs ∧ xs.length = i⟩
theorem turn_enumT {P : Program} {w : World} {K : PySem.W.Frag} {elts : List Expr} {kk : Nat} {tpos : Pos} (a e it : Addr) (hne : e ≠ it) (hea : e ≠ a) (hia : it ≠ a) :
    Turn P w K (.Tuple elts kk tpos) (IteT K a) [e, it] e (fun i h => (∃ old, IsEnum h e it ((i : Nat) : Int) old) ∧ h.IsTupleIter it a i) where
  mem := by simp
  obj := fun i h st b hb => by
    obtain ⟨⟨old, he⟩, ⟨o, ho, hc, hd⟩⟩ := st
    have e' : b = e ∨ b = it := by simpa using hb
    rcases e' with z | z
    · rw [z]; exact ⟨_, he, fun v q => nomatch q⟩
    · rw [z]; exact ⟨o, ho, fun v q => by rw [hd] at q; cases q⟩
  keep := fun i h h' st k => let ⟨⟨old, he⟩, hi⟩ := st; ⟨⟨old, k e (by simp) _ he⟩, hi.at fun o q => k it (by simp) o q⟩
  item := by
    intro X hP hw hK hc i pins s σ H E I hf st hg
    subst hP hw hK
    obtain ⟨⟨old, he⟩, hit⟩ := st
    obtain ⟨xs, x, hq, hx⟩ := hg
    obtain ⟨its, rv, p, hz⟩ := I.tuple hq
    obtain ⟨u, hu, ru⟩ := rv.get hx
    have hel : e < s.heap.objs.size := Heap.lt_size he
    have hil : it < s.heap.objs.size := by obtain ⟨_, q, _⟩ := hit; exact Heap.lt_size q
    have hlt : i < its.toArray.size := by
      rw [List.size_toArray]
      exact (List.getElem?_eq_some_iff.mp hu).1
    refine wpAny_pyNext_enum_itemD (Draws.tuple (A := X.A.in1) (show X.A.in1.handled = none from I.ok.hd hc) it a hia.symm its.toArray) he ⟨hit, p⟩ hlt hne (by simp [hne, hea]) fun y h' tk hy ho hit' hT hsz hk => ?_
    have hyu : y = u := by
      have : its.toArray[i]? = some u := by simpa using hu
      rw [this] at hy
      cases hy
      rfl
    subst hyu
    refine ⟨_, rfl, wpAny_letOwnedTupleGo_enum (s := { s with heap := h', toks := tk + 1 }) ho fun h'' he' sb => ?_⟩
    have hT2 : h''.get? s.heap.objs.size = some { cls := .type "tuple", data := .seq #[.int i tk, y] } := (sb.2 _ (Nat.ne_of_gt hel)).trans hT
    have new : ObjOk X.prog X.w (upd H s.heap.objs.size (.tup [.int (i : Nat), x])) h'' s.heap.objs.size (.tup [.int (i : Nat), x]) :=
      ⟨by show 2 ≤ sizeLine; decide, [.int i tk, y], .cons ⟨_, rfl⟩ (.cons ru .nil), ⟨_, hT2, rfl, _, rfl⟩⟩
    have I1 : Inv X pins σ (upd H s.heap.objs.size (.tup [.int (i : Nat), x])) { s with heap := h'', toks := tk + 1 } :=
      I.turnedNew (ch := [e, it]) (fun b ob hb q => (sb.2 b (fun z => hb (by simp [z]))).trans (hk b ob (fun z => hb (by simp [z])) (fun z => hb (by simp [z])) q)) hf (Nat.le_refl _) new
    refine ⟨.ref s.heap.objs.size, _, I1, rfl, ⟨_, x, rfl, I.hok.fresh (Nat.le_refl _), rfl, fun ys hy => by rw [I.tuple_inj hy hq]; exact hx⟩, ⟨⟨y, ?_⟩, hit'.1.at fun o q => (sb.2 it (Ne.symm hne)).trans q⟩, fun b hb => ?_⟩
    · have e1 : ((i + 1 : Nat) : Int) = (i : Int) + 1 := by omega
      rw [e1]; exact he'
    · have hb' : b < s.heap.objs.size := by
        have e' : b = e ∨ b = it := by simpa using hb
        rcases e' with z | z
        · rw [z]; exact hel
        · rw [z]; exact hil
      rw [upd_ne (Nat.ne_of_lt hb')]
      exact (hf b hb).1
  done := by
    intro X hP hw hK hc i pins s σ H E I hf st hg
    subst hP hw hK
    obtain ⟨⟨old, he⟩, hit⟩ := st
    obtain ⟨xs, hq, hx⟩ := hg
    obtain ⟨its, rv, p, hz⟩ := I.tuple hq
    obtain ⟨f0, f1, f2, f3, f4, f5⟩ := hf it (by simp)
    have hl := rv.length
    have hi : i = its.toArray.size := by
      rw [List.size_toArray]
      omega
    exact wpAny_pyNext_enum_endD (Draws.tuple (A := X.A.in1) (show X.A.in1.handled = none from I.ok.hd hc) it a hia.symm its.toArray) he ⟨hi ▸ hit, p⟩ fun h' eb => ⟨rfl, I.turned (t' := s.toks) (fun b o hb q => eb b o hb q) f0 f1 f3 f4 f5⟩
  self := fun A i s Q E st h => let ⟨⟨_, he⟩, _⟩ := st; wpAny_pyIter_enum he h
def iEnumA (K : PySem.W.Frag) (ta : TA) : TI := fun σ H R => ta σ H fun vs H1 => ∃ a xs, vs = [.ref a] ∧ ((SqL K H1 a xs ∧ R (Ite K a) H1) ∨ (SqT K H1 a xs ∧ R (IteT K a) H1))
theorem pi_enumA {X : Cx} {e : Expr} {ta : TA} {p pos tpos : Pos} {elts : List Expr} {kk : Nat} (hg : Gl X "enumerate") (hm : X.mg "enumerate" = none) (ha : PA X [e] ta) (hs : starEach [e] X.env = [(false, eval e X.env)] := by rfl) :
    PI X (.Tuple elts kk tpos) (.Call (.Name "enumerate" p) [e] [] pos) (iEnumA X.K ta) := by
  refine ⟨fun pins s σ H R I h => ?_⟩
  refine Call_ (ld_blt I hg hm boot_enumerate (PyProof.Rows.callWith_type1 (thn (ha.run pos pins s σ H _ I h) fun us s1 ⟨vs, H1, I1, r1, q1⟩ => ?_) hs rfl))
  obtain ⟨a, xs, ex, q1⟩ := q1
  subst ex
  cases r1 with
  | cons r rr =>
    cases rr
    cases r
    have fresh2 : ∀ b, b ∈ [s1.heap.objs.size + 1, s1.heap.objs.size] → FpOk X pins H1 b := fun b hb => by
      have e' : b = s1.heap.objs.size + 1 ∨ b = s1.heap.objs.size := by simpa using hb
      have hle : s1.heap.objs.size ≤ b := by
        rcases e' with z | z
        · rw [z]; exact Nat.le_add_right _ _
        · rw [z]; exact Nat.le_refl _
      exact I1.fpOk hle (I1.hok.fresh hle)
    rcases q1 with ⟨hq, q⟩ | ⟨hq, q⟩
    · obtain ⟨its, rv, p', hz⟩ := I1.list hq
      refine call_enumerate_list p'.isList fun h' he hit hsz hk => wpAny_pyIter_enum he ?_
      have I2 : Inv X pins σ H1 { s1 with heap := h' } := I1.kept (t' := s1.toks) hk
      exact ⟨s1.heap.objs.size + 1, [s1.heap.objs.size + 1, s1.heap.objs.size], _, _, H1, rfl, I2, turn_enum a (s1.heap.objs.size + 1) s1.heap.objs.size, ⟨⟨.none, he⟩, hit, Nat.succ_ne_self _⟩, fresh2, q⟩
    · obtain ⟨its, rv, p', hz⟩ := I1.tuple hq
      obtain ⟨o, ho, _⟩ := id p'
      have hlt : a < s1.heap.objs.size := Heap.lt_size ho
      refine call_enumT (show s1.heap.IsTuple a its.toArray from p') fun h' he hit hsz hk => wpAny_pyIter_enum he ?_
      have I2 : Inv X pins σ H1 { s1 with heap := h' } := I1.kept (t' := s1.toks) hk
      exact ⟨s1.heap.objs.size + 1, [s1.heap.objs.size + 1, s1.heap.objs.size], _, _, H1, rfl, I2, turn_enumT a (s1.heap.objs.size + 1) s1.heap.objs.size (Nat.succ_ne_self _) (Nat.ne_of_gt (Nat.lt_succ_of_lt hlt)) (Nat.ne_of_gt hlt), ⟨⟨.none, he⟩, hit⟩, fresh2, q⟩
end DL
end

section
set_option maxRecDepth 100000
/-! DL7: what loops go over; list comprehensions. -/
namespace DL
open PySem PySem.Spec PyProof.Rows L2

/-- while the sequence x stays ds -/
def okOf (x : D) (ds : List D) : Mu → Prop := match x with
  | .loc p => fun μ => μ p = some (.lst ds)
  | _ => fun _ => True
theorem okOf_items {μ μ' : Mu} {x : D} {ds : List D} (h : items μ x = some ds) (ok : okOf x ds μ') : items μ' x = some ds := by
  cases x <;> first | exact h | skip
  case loc p =>
    simp only [okOf] at ok
    simp only [items]
    rw [ok]
theorem okOf_self {μ : Mu} {x : D} {ds : List D} (h : items μ x = some ds) : okOf x ds μ := by
  cases x <;> simp only [okOf]
  case loc p =>
    simp only [items] at h
    split at h
    · next xs hm =>
      cases h
      exact hm
    · cases h
section
variable {K : PySem.W.Frag} {A : Amb} {X : Cx} {e a b c tg : Expr} {pos : Pos} {es : List Expr} {d : DE} {t : DA} {ev : EvE} {ts : EvA}
theorem Reps.getD {Hf : Hp} {vs : List V} {xs : List D} {i : Nat} {d : D} (r : Reps K Hf vs xs) (h : xs[i]? = some d) : ∃ v, vs[i]? = some v ∧ Rep K Hf v d := r.get h
theorem it_list {Hf : Hp} {a : Addr} {μ : Mu} {x : D} {ds : List D} (hx : itemsL μ x = some ds) (hrep : Rep K Hf (.ref a) x) : ItOk K Hf (Itl K a) ds (okOf x ds) := fun A Fr Hf1 μ1 H1 i e s ok => by
  have hi : itemsL μ1 x = some ds := by
    have h1 : items μ1 x = some ds := okOf_items (by cases x <;> first | exact hx | cases hx) ok
    cases x <;> first | exact h1 | cases hx
  obtain ⟨a', vs, ha, hq, rs⟩ := s.hr.itemsL (hrep.mono e) hi
  cases ha
  refine ⟨fun d hd => ?_, fun hi => ⟨vs, hq, by rw [rs.length, hi]; exact Nat.le_refl _⟩⟩
  obtain ⟨v, hv, rv⟩ := rs.get hd
  refine ⟨⟨vs, v, hq, hv⟩, fun y H' hy => ?_⟩
  obtain ⟨rfl, h⟩ := hy
  have := h vs hq
  rw [hv] at this
  cases this
  exact ⟨Hf1, Same.refl _, s, rv⟩
theorem it_tup {Hf : Hp} {a : Addr} {ds : List D} (hrep : Rep K Hf (.ref a) (.tup ds)) : ItOk K Hf (Itt K a) ds (fun _ => True) := fun A Fr Hf1 μ1 H1 i e s ok => by
  obtain ⟨a', vs, ha, hq, rs⟩ := s.hr.itemsT (hrep.mono e) rfl
  cases ha
  have hq' : SqT K H1 a vs := .inl (.inl hq)
  refine ⟨fun d hd => ?_, fun hi => ⟨vs, hq', by rw [rs.length, hi]; exact Nat.le_refl _⟩⟩
  obtain ⟨v, hv, rv⟩ := rs.get hd
  refine ⟨⟨vs, v, hq', hv⟩, fun y H' hy => ?_⟩
  obtain ⟨rfl, h⟩ := hy
  have := h vs hq'
  rw [hv] at this
  cases this
  exact ⟨Hf1, Same.refl _, s, rv⟩
def rgD (lo : Int) (n : Nat) : List D := (List.range n).map fun (i : Nat) => D.int (lo + (i : Int))
theorem it_range {Hf : Hp} {lo : Int} {n : Nat} : ItOk K Hf (Itr lo n) (rgD lo n) (fun _ => True) := fun A Fr Hf1 μ1 H1 i e s ok => by
  refine ⟨fun d hd => ?_, fun hi => ?_⟩
  · unfold rgD at hd
    rw [List.getElem?_map] at hd
    cases hr : (List.range n)[i]? with
    | none => rw [hr] at hd; cases hd
    | some j =>
      rw [hr] at hd
      obtain ⟨h1, h2⟩ := List.getElem?_eq_some_iff.mp hr
      rw [List.length_range] at h1
      rw [List.getElem_range] at h2
      subst h2
      cases hd
      refine ⟨h1, fun y H' hy => ?_⟩
      obtain ⟨rfl, rfl⟩ := hy
      exact ⟨Hf1, Same.refl _, s, .int⟩
  · rw [hi]
    show n ≤ _
    unfold rgD
    rw [List.length_map, List.length_range]
    exact Nat.le_refl _
/-! ### sources -/
def seqI (μ : Mu) (x : D) : Option (List D) := match x with
  | .str z => some (z.cps.toList.map fun c => .str ⟨#[c]⟩)
  | x => items μ x
theorem it_str {Hf : Hp} {z : Str} : ItOk K Hf (Its z) (z.cps.toList.map fun c => D.str ⟨#[c]⟩) (fun _ => True) := fun A Fr Hf1 μ1 H1 i e s ok => by
  refine ⟨fun d hd => ?_, fun hi => ?_⟩
  · rw [List.getElem?_map] at hd
    cases hr : z.cps.toList[i]? with
    | none => rw [hr] at hd; cases hd
    | some c =>
      rw [hr] at hd
      cases hd
      rw [Array.getElem?_toList] at hr
      have hlt : i < z.cps.size := (Array.getElem?_eq_some_iff.mp hr).1
      refine ⟨hlt, fun y H' hy => ?_⟩
      obtain ⟨rfl, c', h1, rfl⟩ := hy
      rw [hr] at h1
      cases h1
      exact ⟨Hf1, Same.refl _, s, .str⟩
  · rw [List.length_map, Array.length_toList] at hi
    rw [hi]
    exact Nat.le_refl z.cps.size
/-- a list, a tuple or a text -/
def iSeqA (K : PySem.W.Frag) (tl : TE) : TI := fun σ H R => tl σ H fun x H1 => (∃ a, x = .ref a ∧ (((∃ xs, SqL K H1 a xs) ∧ R (Itl K a) H1) ∨ ((∃ xs, SqT K H1 a xs) ∧ R (Itt K a) H1))) ∨ ∃ z, x = .str z ∧ R (Its z) H1
theorem pi_seqA {tl : TE} (hl : PE X e tl) : PI X tg e (iSeqA X.K tl) := by
  refine ⟨fun pins s σ H R I h => ?_⟩
  refine thn (hl.run pins s σ H _ I h) fun v s1 ⟨x, H1, I1, r1, q1⟩ => ?_
  rcases q1 with ⟨a, ex, ⟨⟨xs, hq⟩, q⟩ | ⟨⟨xs, hq⟩, q⟩⟩ | ⟨z, ex, q⟩
  · subst ex
    cases r1
    obtain ⟨its, rv, p, hz⟩ := I1.list hq
    refine wpAny_pyIter_list p.isList ?_
    refine ⟨s1.heap.objs.size, [s1.heap.objs.size], _, _, H1, rfl, I1.kept (t' := s1.toks) fun b o e => Heap.get?_push_of_some _ e, turn_list a _, ⟨_, Heap.get?_push_size _ rfl, rfl, rfl⟩, fun b hb => ?_, q⟩
    have e : b = s1.heap.objs.size := by simpa using hb
    subst e
    exact I1.fpOk (Nat.le_refl _) (I1.hok.fresh (Nat.le_refl _))
  · subst ex
    cases r1
    obtain ⟨its, rv, p, hz⟩ := I1.tuple hq
    refine wpAny_pyIter_tuple (show s1.heap.IsTuple a its.toArray from p) ?_
    refine ⟨s1.heap.objs.size, [s1.heap.objs.size], _, _, H1, rfl, I1.kept (t' := s1.toks) fun b o e => Heap.get?_push_of_some _ e, turn_tuple a _, ⟨_, Heap.get?_push_size _ rfl, rfl, rfl⟩, fun b hb => ?_, q⟩
    have e : b = s1.heap.objs.size := by simpa using hb
    subst e
    exact I1.fpOk (Nat.le_refl _) (I1.hok.fresh (Nat.le_refl _))
  · subst ex
    obtain ⟨t, rfl⟩ := r1
    cases ha : z.cps.all (· < 128)
    · exact wpAny_pyIter_wide ha (pi_one (tk := s1.toks) I1 _ (turn_str _ z t "str_iterator" (.inr rfl)) ⟨_, Heap.get?_push_size _ rfl, rfl, rfl⟩ q)
    · exact wpAny_pyIter_ascii ha (pi_one (tk := s1.toks) I1 _ (turn_str _ z t "str_ascii_iterator" (.inl rfl)) ⟨_, Heap.get?_push_size _ rfl, rfl, rfl⟩ q)
/-- a sequence; the source is an expression -/
def iSeq (d : DE) : DI := fun ρ μ k => d ρ μ fun x μ1 => ∃ ds, seqI μ1 x = some ds ∧ k ds (okOf x ds) μ1
theorem pid_seq (he : PD X A e d) : PID X A tg e (iSeq d) := PI.imp (pi_seqA he) fun σ H R q => by
  obtain ⟨Fr, Hf, μ, ρ, k, s, sl, hd, kk⟩ := q
  refine ⟨Fr, Hf, μ, ρ, _, s, sl, hd, fun Hf1 μ1 H1 v x e1 s1 r1 h1 => ?_⟩
  obtain ⟨ds, hx, hk⟩ := h1
  by_cases hs : ∃ z, x = .str z
  · obtain ⟨z, rfl⟩ := hs
    cases r1
    cases hx
    exact .inr ⟨z, rfl, kk _ _ _ _ _ _ e1 s1 it_str hk⟩
  · have hx : items μ1 x = some ds := by cases x <;> first | exact hx | exact absurd ⟨_, rfl⟩ hs
    left
    by_cases ht : ∃ ys, x = .tup ys
    · obtain ⟨ys, rfl⟩ := ht
      cases hx
      obtain ⟨a, vs, rfl, hq, rs⟩ := s1.hr.itemsT r1 rfl
      exact ⟨a, rfl, .inr ⟨⟨vs, .inl (.inl hq)⟩, kk _ _ _ _ _ _ e1 s1 (it_tup r1) hk⟩⟩
    · have hx : itemsL μ1 x = some ds := by cases x <;> first | exact hx | exact absurd ⟨_, rfl⟩ ht
      obtain ⟨a, vs, rfl, hq, rs⟩ := s1.hr.itemsL r1 hx
      exact ⟨a, rfl, .inl ⟨⟨vs, hq⟩, kk _ _ _ _ _ _ e1 s1 (it_list hx r1) hk⟩⟩
def iRg1 (t : DA) : DI := fun ρ μ k => t ρ μ fun xs μ1 => match xs with
  | [.int j] => (j ≤ 100000 ∧ -100000 ≤ j) ∧ k (rgD 0 j.toNat) (fun _ => True) μ1
  | _ => False
def iRg2 (t : DA) : DI := fun ρ μ k => t ρ μ fun xs μ1 => match xs with
  | [.int i, .int j] => (i ≤ 100000 ∧ -100000 ≤ i ∧ j ≤ 100000 ∧ -100000 ≤ j) ∧ k (rgD i (j - i).toNat) (fun _ => True) μ1
  | _ => False
theorem pid_rg1 {p : Pos} (hg : Gl X "range") (hm : X.mg "range" = none) (ha : PAD X A [a] t) (hs : starEach [a] X.env = [(false, eval a X.env)] := by rfl) : PID X A tg (.Call (.Name "range" p) [a] [] pos) (iRg1 t) := PI.imp (pi_range1 hg hm ha hs) fun σ H R q => by
  obtain ⟨Fr, Hf, μ, ρ, k, s, sl, hd, kk⟩ := q
  refine ⟨Fr, Hf, μ, ρ, _, s, sl, hd, fun Hf1 μ1 H1 vs xs e1 s1 r1 h1 => ?_⟩
  match xs, h1 with
  | [.int j], ⟨h1, h2⟩ =>
    obtain ⟨v, rfl, rv⟩ := r1.one_inv
    cases rv
    exact ⟨j, rfl, by omega, by omega, kk _ _ _ _ _ _ e1 s1 it_range h2⟩
theorem pid_rg2 {p : Pos} (hg : Gl X "range") (hm : X.mg "range" = none) (ha : PAD X A [a, b] t) (hs : starEach [a, b] X.env = [(false, eval a X.env), (false, eval b X.env)] := by rfl) (hs2 : starEach [b] X.env = [(false, eval b X.env)] := by rfl) : PID X A tg (.Call (.Name "range" p) [a, b] [] pos) (iRg2 t) := PI.imp (pi_range2 hg hm ha hs hs2) fun σ H R q => by
  obtain ⟨Fr, Hf, μ, ρ, k, s, sl, hd, kk⟩ := q
  refine ⟨Fr, Hf, μ, ρ, _, s, sl, hd, fun Hf1 μ1 H1 vs xs e1 s1 r1 h1 => ?_⟩
  match xs, h1 with
  | [.int i, .int j], ⟨h1, h2⟩ =>
    obtain ⟨v, w, rfl, rv, rw_⟩ := r1.two_inv
    cases rv
    cases rw_
    exact ⟨i, j, rfl, ⟨by omega, by omega, by omega, by omega⟩, kk _ _ _ _ _ _ e1 s1 it_range h2⟩
/-- enumerate -/
def enD (ds : List D) : List D := (List.range ds.length).zipWith (fun (i : Nat) x => .tup [.int i, x]) ds
def iEn (t : DA) : DI := fun ρ μ k => t ρ μ fun xs μ1 => match xs with
  | [x] => ∃ ds, items μ1 x = some ds ∧ k (enD ds) (okOf x ds) μ1
  | _ => False
theorem enD_get {ds : List D} {i : Nat} {d : D} (h : (enD ds)[i]? = some d) : ∃ x, ds[i]? = some x ∧ d = .tup [.int i, x] := by
  unfold enD at h
  rw [List.getElem?_zipWith] at h
  cases h1 : (List.range ds.length)[i]? with
  | none => rw [h1] at h; cases h
  | some j =>
    cases h2 : ds[i]? with
    | none => rw [h1, h2] at h; cases h
    | some x =>
      rw [h1, h2] at h
      cases h
      obtain ⟨h3, h4⟩ := List.getElem?_eq_some_iff.mp h1
      rw [List.getElem_range] at h4
      subst h4
      exact ⟨x, rfl, rfl⟩
theorem enD_len (ds : List D) : (enD ds).length = ds.length := by
  unfold enD
  rw [List.length_zipWith, List.length_range, Nat.min_self]
theorem it_enumL {Hf : Hp} {a : Addr} {μ : Mu} {x : D} {ds : List D} (hx : itemsL μ x = some ds) (hrep : Rep K Hf (.ref a) x) : ItOk K Hf (Ite K a) (enD ds) (okOf x ds) := fun A Fr Hf1 μ1 H1 i e s ok => by
  have hi : itemsL μ1 x = some ds := by
    have h1 : items μ1 x = some ds := okOf_items (by cases x <;> first | exact hx | cases hx) ok
    cases x <;> first | exact h1 | cases hx
  obtain ⟨a', vs, ha, hq, rs⟩ := s.hr.itemsL (hrep.mono e) hi
  cases ha
  refine ⟨fun d hd => ?_, fun hi => ⟨vs, hq, by rw [rs.length, hi, enD_len]; exact Nat.le_refl _⟩⟩
  obtain ⟨y, hy, rfl⟩ := enD_get hd
  obtain ⟨v, hv, rv⟩ := rs.get hy
  refine ⟨⟨vs, v, hq, hv⟩, fun z H' hz => ?_⟩
  obtain ⟨T, u, rfl, hT, rfl, h⟩ := hz
  have := h vs hq
  rw [hv] at this
  cases this
  exact ⟨_, s.sameF hT _, s.newF hT _, Rep.newT (s.hr.hf_none hT) (.cons .int (.one rv))⟩
theorem it_enumT {Hf : Hp} {a : Addr} {ds : List D} (hrep : Rep K Hf (.ref a) (.tup ds)) : ItOk K Hf (IteT K a) (enD ds) (fun _ => True) := fun A Fr Hf1 μ1 H1 i e s ok => by
  obtain ⟨a', vs, ha, hq, rs⟩ := s.hr.itemsT (hrep.mono e) rfl
  cases ha
  have hq' : SqT K H1 a vs := .inl (.inl hq)
  refine ⟨fun d hd => ?_, fun hi => ⟨vs, hq', by rw [rs.length, hi, enD_len]⟩⟩
  obtain ⟨y, hy, rfl⟩ := enD_get hd
  obtain ⟨v, hv, rv⟩ := rs.get hy
  refine ⟨⟨vs, v, hq', hv⟩, fun z H' hz => ?_⟩
  obtain ⟨T, u, rfl, hT, rfl, h⟩ := hz
  have := h vs hq'
  rw [hv] at this
  cases this
  exact ⟨_, s.sameF hT _, s.newF hT _, Rep.newT (s.hr.hf_none hT) (.cons .int (.one rv))⟩
theorem pid_en {p tpos : Pos} {elts : List Expr} {kk : Nat} (hg : Gl X "enumerate") (hm : X.mg "enumerate" = none) (ha : PAD X A [a] t) (hs : starEach [a] X.env = [(false, eval a X.env)] := by rfl) :
    PID X A (.Tuple elts kk tpos) (.Call (.Name "enumerate" p) [a] [] pos) (iEn t) := PI.imp (pi_enumA hg hm ha hs) fun σ H R q => by
  obtain ⟨Fr, Hf, μ, ρ, k, s, sl, hd, kk⟩ := q
  refine ⟨Fr, Hf, μ, ρ, _, s, sl, hd, fun Hf1 μ1 H1 vs xs e1 s1 r1 h1 => ?_⟩
  match xs, h1 with
  | [x], ⟨ds, hx, hk⟩ =>
    obtain ⟨v, rfl, rv⟩ := r1.one_inv
    by_cases ht : ∃ ys, x = .tup ys
    · obtain ⟨ys, rfl⟩ := ht
      cases hx
      obtain ⟨a, us, rfl, hq, rs⟩ := s1.hr.itemsT rv rfl
      exact ⟨a, us, rfl, .inr ⟨.inl (.inl hq), kk _ _ _ _ _ _ e1 s1 (it_enumT rv) hk⟩⟩
    · have hx : itemsL μ1 x = some ds := by cases x <;> first | exact hx | exact absurd ⟨_, rfl⟩ ht
      obtain ⟨a, us, rfl, hq, rs⟩ := s1.hr.itemsL rv hx
      exact ⟨a, us, rfl, .inl ⟨hq, kk _ _ _ _ _ _ e1 s1 (it_enumL hx rv) hk⟩⟩
/-- zip of two tuples, or of two lists that stand still -/
def zpD (xs ys : List D) : List D := xs.zipWith (fun x y => .tup [x, y]) ys
def iZp (t : DA) : DI := fun ρ μ k => t ρ μ fun xs μ1 => match xs with
  | [.tup xs, .tup ys] => k (zpD xs ys) (fun _ => True) μ1
  | [.lst xs, .lst ys] => k (zpD xs ys) (fun _ => True) μ1
  | _ => False
theorem zpD_get {xs ys : List D} {i : Nat} {d : D} (h : (zpD xs ys)[i]? = some d) : ∃ x y, xs[i]? = some x ∧ ys[i]? = some y ∧ d = .tup [x, y] := by
  unfold zpD at h
  rw [List.getElem?_zipWith] at h
  cases h1 : xs[i]? with
  | none => rw [h1] at h; cases h
  | some x =>
    cases h2 : ys[i]? with
    | none => rw [h1, h2] at h; cases h
    | some y =>
      rw [h1, h2] at h
      cases h
      exact ⟨x, y, rfl, rfl, rfl⟩
theorem it_zipT {Hf : Hp} {a b : Addr} {xs ys : List D} (r1 : Rep K Hf (.ref a) (.tup xs)) (r2 : Rep K Hf (.ref b) (.tup ys)) : ItOk K Hf (RZ.ItzT K a b) (zpD xs ys) (fun _ => True) := fun A Fr Hf1 μ1 H1 i e s ok => by
  obtain ⟨a', vs, ha, hq, rs⟩ := s.hr.itemsT (r1.mono e) rfl
  cases ha
  obtain ⟨b', us, hb, hq2, rs2⟩ := s.hr.itemsT (r2.mono e) rfl
  cases hb
  have hq' : SqT K H1 a vs := .inl (.inl hq)
  have hq2' : SqT K H1 b us := .inl (.inl hq2)
  refine ⟨fun d hd => ?_, fun hi => ⟨vs, us, hq', hq2', ?_⟩⟩
  · obtain ⟨x, y, hx, hy, rfl⟩ := zpD_get hd
    obtain ⟨v, hv, rv⟩ := rs.get hx
    obtain ⟨u, hu, ru⟩ := rs2.get hy
    refine ⟨⟨vs, us, v, u, hq', hq2', hv, hu⟩, fun z H' hz => ?_⟩
    obtain ⟨T, v', u', rfl, hT, rfl, h, h'⟩ := hz
    have h3 := h vs hq'
    have h4 := h' us hq2'
    rw [hv] at h3
    rw [hu] at h4
    cases h3
    cases h4
    exact ⟨_, s.sameF hT _, s.newF hT _, Rep.newT (s.hr.hf_none hT) (.cons rv (.one ru))⟩
  · unfold zpD at hi
    rw [List.length_zipWith, ← rs.length, ← rs2.length] at hi
    omega
theorem it_zipL {Hf : Hp} {a b : Addr} {xs ys : List D} (r1 : Rep K Hf (.ref a) (.lst xs)) (r2 : Rep K Hf (.ref b) (.lst ys)) : ItOk K Hf (Itz K a b) (zpD xs ys) (fun _ => True) := fun A Fr Hf1 μ1 H1 i e s ok => by
  obtain ⟨a', vs, ha, hq', rs⟩ := s.hr.itemsL (r1.mono e) (show itemsL μ1 (.lst xs) = some xs from rfl)
  cases ha
  obtain ⟨b', us, hb, hq2', rs2⟩ := s.hr.itemsL (r2.mono e) (show itemsL μ1 (.lst ys) = some ys from rfl)
  cases hb
  refine ⟨fun d hd => ?_, fun hi => ⟨vs, us, hq', hq2', ?_⟩⟩
  · obtain ⟨x, y, hx, hy, rfl⟩ := zpD_get hd
    obtain ⟨v, hv, rv⟩ := rs.get hx
    obtain ⟨u, hu, ru⟩ := rs2.get hy
    refine ⟨⟨vs, us, v, u, hq', hq2', hv, hu⟩, fun z H' hz => ?_⟩
    obtain ⟨T, v', u', rfl, hT, rfl, h, h'⟩ := hz
    have h3 := h vs hq'
    have h4 := h' us hq2'
    rw [hv] at h3
    rw [hu] at h4
    cases h3
    cases h4
    exact ⟨_, s.sameF hT _, s.newF hT _, Rep.newT (s.hr.hf_none hT) (.cons rv (.one ru))⟩
  · unfold zpD at hi
    rw [List.length_zipWith, ← rs.length, ← rs2.length] at hi
    omega
theorem pid_zp {p tpos : Pos} {elts : List Expr} {kk : Nat} (hg : Gl X "zip") (hm : X.mg "zip" = none) (ha : PAD X A [a, b] t)
    (hs : starEach [a, b] X.env = (false, eval a X.env) :: starEach [b] X.env := by rfl) (hpl : (backTo pos (starEach [b] X.env)).any (·.1) = false := by rfl) :
    PID X A (.Tuple elts kk tpos) (.Call (.Name "zip" p) [a, b] [] pos) (iZp t) := PI.imp (RZ.pi_zipA hg hm ha hs hpl) fun σ H R q => by
  obtain ⟨Fr, Hf, μ, ρ, k, s, sl, hd, kk⟩ := q
  refine ⟨Fr, Hf, μ, ρ, _, s, sl, hd, fun Hf1 μ1 H1 vs xs e1 s1 r1 h1 => ?_⟩
  match xs, h1 with
  | [.tup xs, .tup ys], hk =>
    obtain ⟨v, w, rfl, rv, rw_⟩ := r1.two_inv
    obtain ⟨a, us, rfl, hq, rs⟩ := s1.hr.itemsT rv rfl
    obtain ⟨b, ws, rfl, hq2, rs2⟩ := s1.hr.itemsT rw_ rfl
    exact ⟨a, b, us, ws, rfl, .inr ⟨.inl (.inl hq), .inl (.inl hq2), kk _ _ _ _ _ _ e1 s1 (it_zipT rv rw_) hk⟩⟩
  | [.lst xs, .lst ys], hk =>
    obtain ⟨v, w, rfl, rv, rw_⟩ := r1.two_inv
    obtain ⟨a, us, rfl, hq, rs⟩ := s1.hr.itemsL rv (show itemsL μ1 (.lst xs) = some xs from rfl)
    obtain ⟨b, ws, rfl, hq2, rs2⟩ := s1.hr.itemsL rw_ (show itemsL μ1 (.lst ys) = some ys from rfl)
    exact ⟨a, b, us, ws, rfl, .inl ⟨hq, hq2, kk _ _ _ _ _ _ e1 s1 (it_zipL rv rw_) hk⟩⟩
/-! ### pure sources -/
abbrev EvI := Ro → Mu → Option (List D)
def dIP (ip : EvI) : DI := fun ρ μ k => ∃ ds, ip ρ μ = some ds ∧ k ds (fun μ' => μ' = μ) μ
abbrev PIV (X : Cx) (A : Amb) (tg iter : Expr) (ip : EvI) : Prop := PID X A tg iter (dIP ip)
theorem ItOk.imp {Hf : Hp} {J : It} {ds : List D} {ok ok' : Mu → Prop} (h : ItOk K Hf J ds ok) (i : ∀ μ, ok' μ → ok μ) : ItOk K Hf J ds ok' := fun A Fr Hf1 μ1 H1 j e s o => h A Fr Hf1 μ1 H1 j e s (i _ o)
theorem PID.pure {iter : Expr} {it : DI} {ip : EvI} (h : PID X A tg iter it) (i : ∀ ρ μ ds, ip ρ μ = some ds → ∀ k : List D → (Mu → Prop) → Mu → Prop, (∀ ok, ok μ → k ds ok μ) → it ρ μ k) : PIV X A tg iter ip := PI.imp h fun σ H R q => by
  obtain ⟨Fr, Hf, μ, ρ, k, s, sl, ⟨ds, hd, hk⟩, kk⟩ := q
  refine ⟨Fr, Hf, μ, ρ, fun ds' ok μ' => ds' = ds ∧ μ' = μ ∧ ok μ, s, sl, i ρ μ ds hd _ fun ok hok => ⟨rfl, rfl, hok⟩, fun Hf1 μ1 H1 J ds1 ok e1 s1 io h1 => ?_⟩
  obtain ⟨rfl, rfl, hok⟩ := h1
  exact kk _ _ _ _ _ _ e1 s1 (io.imp fun μ' h => by rw [h]; exact hok) hk
def ipSeq (ev : EvE) (ρ : Ro) (μ : Mu) : Option (List D) := (ev ρ μ).bind (seqI μ)
theorem piv_seq (he : PV X A e ev) : PIV X A tg e (ipSeq ev) := (pid_seq he).pure fun ρ μ ds h k hk => by
  unfold ipSeq at h
  cases h1 : ev ρ μ with
  | none => rw [h1] at h; cases h
  | some x =>
    rw [h1] at h
    refine ⟨x, h1, ds, h, hk _ ?_⟩
    cases x <;> first | trivial | exact okOf_self (show items μ _ = some ds from h)
def ipRg1 (ts : EvA) (ρ : Ro) (μ : Mu) : Option (List D) := (ts ρ μ).bind fun xs => match xs with
  | [.int j] => if j ≤ 100000 ∧ -100000 ≤ j then some (rgD 0 j.toNat) else none
  | _ => none
theorem piv_rg1 {p : Pos} (hg : Gl X "range") (hm : X.mg "range" = none) (ha : PAV X A [a] ts) (hs : starEach [a] X.env = [(false, eval a X.env)] := by rfl) : PIV X A tg (.Call (.Name "range" p) [a] [] pos) (ipRg1 ts) := (pid_rg1 hg hm ha hs).pure fun ρ μ ds h k hk => by
  unfold ipRg1 at h
  cases h1 : ts ρ μ with
  | none => rw [h1] at h; cases h
  | some xs =>
    rw [h1] at h
    refine ⟨xs, h1, ?_⟩
    match xs, h with
    | [.int j], h =>
      simp only [Option.bind_some] at h
      split at h
      · next hc =>
        cases h
        exact ⟨hc, hk _ trivial⟩
      · cases h
def ipRg2 (ts : EvA) (ρ : Ro) (μ : Mu) : Option (List D) := (ts ρ μ).bind fun xs => match xs with
  | [.int i, .int j] => if i ≤ 100000 ∧ -100000 ≤ i ∧ j ≤ 100000 ∧ -100000 ≤ j then some (rgD i (j - i).toNat) else none
  | _ => none
theorem piv_rg2 {p : Pos} (hg : Gl X "range") (hm : X.mg "range" = none) (ha : PAV X A [a, b] ts) (hs : starEach [a, b] X.env = [(false, eval a X.env), (false, eval b X.env)] := by rfl) (hs2 : starEach [b] X.env = [(false, eval b X.env)] := by rfl) : PIV X A tg (.Call (.Name "range" p) [a, b] [] pos) (ipRg2 ts) := (pid_rg2 hg hm ha hs hs2).pure fun ρ μ ds h k hk => by
  unfold ipRg2 at h
  cases h1 : ts ρ μ with
  | none => rw [h1] at h; cases h
  | some xs =>
    rw [h1] at h
    refine ⟨xs, h1, ?_⟩
    match xs, h with
    | [.int i, .int j], h =>
      simp only [Option.bind_some] at h
      split at h
      · next hc =>
        cases h
        exact ⟨hc, hk _ trivial⟩
      · cases h
def ipEn (ts : EvA) (ρ : Ro) (μ : Mu) : Option (List D) := (ts ρ μ).bind fun xs => match xs with
  | [x] => (items μ x).bind fun ds => some (enD ds)
  | _ => none
theorem piv_en {p tpos : Pos} {elts : List Expr} {kk : Nat} (hg : Gl X "enumerate") (hm : X.mg "enumerate" = none) (ha : PAV X A [a] ts) (hs : starEach [a] X.env = [(false, eval a X.env)] := by rfl) :
    PIV X A (.Tuple elts kk tpos) (.Call (.Name "enumerate" p) [a] [] pos) (ipEn ts) := (pid_en hg hm ha hs).pure fun ρ μ ds h k hk => by
  unfold ipEn at h
  cases h1 : ts ρ μ with
  | none => rw [h1] at h; cases h
  | some xs =>
    rw [h1] at h
    refine ⟨xs, h1, ?_⟩
    match xs, h with
    | [x], h =>
      simp only [Option.bind_some] at h
      cases hx : items μ x with
      | none => rw [hx] at h; cases h
      | some zs =>
        rw [hx] at h
        cases h
        exact ⟨zs, hx, hk _ (okOf_self hx)⟩
def ipZp (ts : EvA) (ρ : Ro) (μ : Mu) : Option (List D) := (ts ρ μ).bind fun xs => match xs with
  | [.tup xs, .tup ys] => some (zpD xs ys)
  | [.lst xs, .lst ys] => some (zpD xs ys)
  | _ => none
theorem piv_zp {p tpos : Pos} {elts : List Expr} {kk : Nat} (hg : Gl X "zip") (hm : X.mg "zip" = none) (ha : PAV X A [a, b] ts)
    (hs : starEach [a, b] X.env = (false, eval a X.env) :: starEach [b] X.env := by rfl) (hpl : (backTo pos (starEach [b] X.env)).any (·.1) = false := by rfl) :
    PIV X A (.Tuple elts kk tpos) (.Call (.Name "zip" p) [a, b] [] pos) (ipZp ts) := (pid_zp hg hm ha hs hpl).pure fun ρ μ ds h k hk => by
  unfold ipZp at h
  cases h1 : ts ρ μ with
  | none => rw [h1] at h; cases h
  | some xs =>
    rw [h1] at h
    refine ⟨xs, h1, ?_⟩
    match xs, h with
    | [.tup xs, .tup ys], h =>
      cases h
      exact hk _ trivial
    | [.lst xs, .lst ys], h =>
      cases h
      exact hk _ trivial
end
end DL
end

section
set_option maxRecDepth 100000
/-! DL8: list comprehensions. -/
namespace DL
open PySem PySem.Spec PyProof.Rows L2

theorem wipe_in {σ : Sg} {i : Nat} : ∀ {vs : List Nat}, i ∈ vs → (L2.wipe σ vs)[i]? = if i < σ.length then some none else none
  | [], h => absurd h (by simp)
  | v :: vs, h => by
    unfold L2.wipe
    by_cases hv : v = i
    · subst hv
      rw [List.getElem?_set, if_pos rfl, wipe_length]
    · rw [List.getElem?_set_ne hv]
      rcases List.mem_cons.mp h with e | h
      · exact absurd e.symm hv
      · exact wipe_in h
theorem wipe_kg {σ σ2 : Sg} {vs ws : List Nat} (h : KG (L2.wipe σ vs) ws σ2) (hs : ∀ i ∈ ws, i ∈ vs) : L2.wipe σ2 vs = L2.wipe σ vs := by
  apply List.ext_getElem?
  intro i
  have hl : σ2.length = σ.length := h.1.trans (wipe_length σ vs)
  by_cases hi : i ∈ vs
  · rw [wipe_in hi, wipe_in hi, hl]
  · rw [wipe_out hi]
    exact h.2 i fun q => hi (hs i q)
section
variable {K : PySem.W.Frag} {A : Amb} {Fr Hf H : Hp} {μ : Mu} {p : Addr}
theorem same_updN {F : Hp} {o : HO} (h : F p = none) : Same F (upd F p o) := same_new h
/-- what is set aside stands still from now on -/
theorem HR.fzFr {vs : List V} (hn : Fr p = none) (h : HR K (upd Fr p (.lst vs)) Hf μ H) : HR K Fr (upd Hf p (.lst vs)) μ H := by
  have hp := h.fr p _ upd_same
  refine ⟨fun b z e => ?_, fun b z e => ?_, fun b z e => ?_⟩
  · by_cases hb : b = p
    · subst hb
      rw [upd_same] at e
      cases e
      exact hp.1
    · rw [upd_ne hb] at e
      exact h.ex b z e
  · have hb : b ≠ p := ne_of_none e hn
    obtain ⟨f1, f2, f3⟩ := h.fr b z (by rw [upd_ne hb]; exact e)
    rw [upd_ne hb]
    exact ⟨f1, f2, f3⟩
  · have hb : b ≠ p := ne_of_mu e hp.2.2
    obtain ⟨g1, o, g2, g3⟩ := h.mu b z e
    rw [upd_ne hb]
    exact ⟨g1, o, g2, g3.mono (same_new hp.2.1)⟩
end
/-! ### the loop of a comprehension -/
def lcL (g : DG) (tt : DT) (te : DE) (ok : Mu → Prop) (ρ' : Ro) : List D → List D → Mu → (List D → Mu → Prop) → Prop
  | [], acc, μ, k => ok μ ∧ k acc μ
  | x :: r, acc, μ, k => ok μ ∧ acc.length < 100000 ∧ g x ρ' μ fun ρ1 μ1 => tt ρ1 μ1 fun b μ2 => if b = true then te ρ1 μ2 fun y μ3 => lcL g tt te ok ρ' r (acc ++ [y]) μ3 k else lcL g tt te ok ρ' r acc μ2 k
section
variable {K : PySem.W.Frag} {A : Amb} {Fr Hf H : Hp} {μ : Mu} {p : Addr} {J : It} {ds acc0 : List D} {ok : Mu → Prop} {g : DG} {tt : DT} {te : DE} {ρ' : Ro} {ws vs : List Nat} {vs0 : List V} {σ : Sg} {k : List D → Mu → Prop} {S : Hp → Prop}
theorem lc_loop (hn : Fr p = none) (am : A.P Fr Hf) (io : ItOk K Hf J ds ok) (s : HR K (upd Fr p (.lst vs0)) Hf μ H) (r0 : Reps K Hf vs0 acc0) (sl : SlR K Hf (L2.wipe σ vs) ρ') (hw : ∀ i ∈ ws, i ∈ vs) (h : lcL g tt te ok ρ' ds acc0 μ k)
    (fin : ∀ Hf' μ' H' us xs, Same Hf Hf' → HR K (upd Fr p (.lst us)) Hf' μ' H' → Reps K Hf' us xs → k xs μ' → S H') :
    ∃ W : Nat → Nat → Hp → Prop, (∃ m, W 0 m H) ∧ ∀ i m H, W i m H → (J.stop i H ∧ S H) ∨ (J.go i H ∧ ∃ Nx : Hp → Prop, (∀ H', Nx H' → ∃ m', m' < m ∧ W (i + 1) m' H') ∧
      ∀ x H', J.yld i H x H' → tDG K A g ws x (L2.wipe σ vs) H' fun σ2 H2 => L2.wipe σ2 vs = L2.wipe σ vs ∧ tDT K A tt σ2 H2 fun b H3 =>
        if b = true then tD K A te σ2 H3 fun y H4 => ∃ acc, H4 p = some (.lst acc) ∧ acc.length < sizeLine ∧ Nx (upd H4 p (.lst (acc ++ [y]))) else Nx H3) := by
  have am' : ∀ Hf' us, Same Hf Hf' → A.P (upd Fr p (.lst us)) Hf' := fun Hf' us e => A.mono (same_new hn) e am
  refine ⟨fun i m H => ∃ Hf1 μ1 us acc, Same Hf Hf1 ∧ HR K (upd Fr p (.lst us)) Hf1 μ1 H ∧ Reps K Hf1 us acc ∧ i + m = ds.length ∧ lcL g tt te ok ρ' (ds.drop i) acc μ1 k, ⟨ds.length, Hf, μ, vs0, acc0, Same.refl _, s, r0, Nat.zero_add _, h⟩, fun i m H h => ?_⟩
  obtain ⟨Hf1, μ1, us, acc, e1, s1, r1, hm, h1⟩ := h
  by_cases hlt : i < ds.length
  · right
    rw [List.drop_eq_getElem_cons hlt] at h1
    obtain ⟨hok, hacc, h2⟩ := h1
    obtain ⟨hgo, hy⟩ := (io A _ Hf1 μ1 H i e1 ⟨s1, am' _ _ e1⟩ hok).1 _ (List.getElem?_eq_getElem hlt)
    refine ⟨hgo, fun H' => ∃ Hf2 μ2 us2 acc2, Same Hf Hf2 ∧ HR K (upd Fr p (.lst us2)) Hf2 μ2 H' ∧ Reps K Hf2 us2 acc2 ∧ (i + 1) + (m - 1) = ds.length ∧ lcL g tt te ok ρ' (ds.drop (i + 1)) acc2 μ2 k, fun H' h => ⟨m - 1, by omega, h⟩, fun x H' hx => ?_⟩
    obtain ⟨Hf2, e2, s2, r2⟩ := hy x H' hx
    refine ⟨_, Hf2, μ1, ρ', _, _, s2, sl.mono (e1.trans e2), r2, h2, fun Hf3 μ3 H3 σ3 ρ3 e3 s3 sl3 kg h3 => ⟨wipe_kg kg hw, ?_⟩⟩
    refine ⟨_, Hf3, μ3, ρ3, _, s3, sl3, h3, fun Hf4 μ4 H4 b e4 s4 h4 => ?_⟩
    split at h4
    · next hb =>
      rw [if_pos hb]
      refine ⟨_, Hf4, μ4, ρ3, _, s4, sl3.mono e4, h4, fun Hf5 μ5 H5 y d e5 s5 r5 h5 => ?_⟩
      have hp := s5.hr.fr p _ upd_same
      refine ⟨us, hp.1, ?_, Hf5, μ5, us ++ [y], acc ++ [d], e1.trans (e2.trans (e3.trans (e4.trans e5))), ?_, (r1.mono (e2.trans (e3.trans (e4.trans e5)))).append (.one r5), by omega, h5⟩
      · rw [r1.length]
        exact lt_size hacc
      · have h6 := s5.hr.setFr (.lst (us ++ [y]))
        exact h6
    · next hb =>
      rw [if_neg hb]
      exact ⟨Hf4, μ4, us, acc, e1.trans (e2.trans (e3.trans e4)), s4.hr, r1.mono (e2.trans (e3.trans e4)), by omega, h4⟩
  · left
    rw [List.drop_eq_nil_of_le (by omega)] at h1
    exact ⟨(io A _ Hf1 μ1 H i e1 ⟨s1, am' _ _ e1⟩ h1.1).2 (by omega), fin _ _ _ _ _ e1 s1 r1 h1.2⟩
end
abbrev DLx := Ro → Mu → (List D → Mu → Prop) → Prop
def dLc (it : DI) (g : DG) (tt : DT) (te : DE) (vs : List Nat) : DLx := fun ρ μ k => it ρ μ fun ds ok μ1 => lcL g tt te ok (unsetAll ρ vs) ds [] μ1 k
def dLc2 (it : DI) (g : DG) (tt : DT) (it1 : DI) (g1 : DG) (tt1 : DT) (te : DE) (vs vs1 : List Nat) : DLx := fun ρ μ k => it ρ μ fun ds ok μ1 =>
  let rec go : List D → List D → Mu → Prop
    | [], acc, μ => ok μ ∧ k acc μ
    | x :: r, acc, μ => ok μ ∧ acc.length < 100000 ∧ g x (unsetAll ρ vs) μ fun ρ1 μ1 => tt ρ1 μ1 fun b μ2 => if b = true then it1 ρ1 μ2 fun ds1 ok1 μ3 => lcL g1 tt1 te ok1 (unsetAll ρ1 vs1) ds1 acc μ3 (fun acc' μ' => go r acc' μ') else go r acc μ2
  go ds [] μ1
/-- a new list at its end: it stands still, or it may change -/
def dFz (l : DLx) : DE := fun ρ μ k => l ρ μ fun xs μ1 => k (.lst xs) μ1
def dMut (l : DLx) : DE := fun ρ μ k => l ρ μ fun xs μ1 => ∀ p, μ1 p = none → k (.loc p) (updM μ1 p (.lst xs))
def SdL (K : PySem.W.Frag) (A : Amb) (l : DLx) (t : TE) : Prop := ∀ (Fr Hf : Hp) (μ : Mu) (H : Hp) (σ : Sg) (ρ : Ro) (k : List D → Mu → Prop) (Q : VK), RS K A Fr Hf μ H → SlR K Hf σ ρ → l ρ μ k →
  (∀ Hf' μ' H' p us xs, Same Hf Hf' → Fr p = none → HR K (upd Fr p (.lst us)) Hf' μ' H' → Reps K Hf' us xs → k xs μ' → Q (.ref p) H') → t σ H Q
section
variable {X : Cx} {A : Amb} {e : Expr} {l : DLx} {t : TE}
theorem pd_fz (h : PE X e t) (hs : SdL X.K A l t) : PD X A e (dFz l) := PE.imp h fun σ H Q q => by
  obtain ⟨Fr, Hf, μ, ρ, k, s, sl, hd, kk⟩ := q
  refine hs Fr Hf μ H σ ρ _ Q s sl hd fun Hf1 μ1 H1 p us xs e1 hn s1 r1 h1 => ?_
  have hp := (s1.fr p _ upd_same).2.1
  exact kk _ _ _ _ _ (e1.trans (same_new hp)) ⟨s1.fzFr hn, A.mono (Same.refl _) (e1.trans (same_new hp)) s.am⟩ (.lst upd_same (r1.mono (same_new hp))) h1
theorem pd_mut (h : PE X e t) (hs : SdL X.K A l t) : PD X A e (dMut l) := PE.imp h fun σ H Q q => by
  obtain ⟨Fr, Hf, μ, ρ, k, s, sl, hd, kk⟩ := q
  refine hs Fr Hf μ H σ ρ _ Q s sl hd fun Hf1 μ1 H1 p us xs e1 hn s1 r1 h1 => ?_
  have hp := s1.fr p _ upd_same
  exact kk _ _ _ _ _ e1 ⟨HR.back hn s1 (show MOk X.K Hf1 (.lst us) (.lst xs) from r1), A.mono (Same.refl _) e1 s.am⟩ .loc (h1 p hp.2.2)
end
section
variable {K : PySem.W.Frag} {A : Amb} {it it1 : DI} {g g1 : DG} {tt tt1 : DT} {te : DE} {ws ws1 vs vs1 : List Nat}
theorem sdl_lc (hw : ∀ i ∈ ws, i ∈ vs) : SdL K A (dLc it g tt te vs) (tLc (tDI K A it) (tDG K A g ws) (tDT K A tt) (tD K A te) vs) := fun Fr Hf μ H σ ρ k Q s sl hd kk => by
  refine ⟨Fr, Hf, μ, ρ, _, s, sl, hd, fun Hf1 μ1 H1 J ds ok e1 s1 io h1 p hp => ?_⟩
  have hn := s1.hr.fr_none hp
  exact lc_loop (σ := σ) (vs := vs) (Hf := Hf1) (S := fun H => Q (.ref p) H) hn s1.am io (s1.hr.newFr hp (.lst [])) .nil ((sl.mono e1).wipe vs) hw h1 fun Hf2 μ2 H2 us xs e2 s2 r2 h2 => kk _ _ _ _ _ _ (e1.trans e2) hn s2 r2 h2
theorem sdl_lc2 (hw : ∀ i ∈ ws, i ∈ vs) (hw1 : ∀ i ∈ ws1, i ∈ vs1) : SdL K A (dLc2 it g tt it1 g1 tt1 te vs vs1) (tLc2 (tDI K A it) (tDG K A g ws) (tDT K A tt) (tDI K A it1) (tDG K A g1 ws1) (tDT K A tt1) (tD K A te) vs vs1) := fun Fr Hf μ H σ ρ k Q s sl hd kk => by
  refine ⟨Fr, Hf, μ, ρ, _, s, sl, hd, fun Hf0 μ0 H0 J ds ok e0 s0 io h0 p hp => ?_⟩
  have hn := s0.hr.fr_none hp
  have am' : ∀ Hf' us, Same Hf0 Hf' → A.P (upd Fr p (.lst us)) Hf' := fun Hf' us e => A.mono (same_new hn) e s0.am
  have sl0 : SlR K Hf0 (L2.wipe σ vs) (unsetAll ρ vs) := (sl.mono e0).wipe vs
  refine ⟨fun i m H => ∃ Hf1 μ1 us acc, Same Hf0 Hf1 ∧ HR K (upd Fr p (.lst us)) Hf1 μ1 H ∧ Reps K Hf1 us acc ∧ i + m = ds.length ∧ dLc2.go g tt it1 g1 tt1 te vs vs1 ρ k ok (ds.drop i) acc μ1, ⟨ds.length, Hf0, μ0, [], [], Same.refl _, s0.hr.newFr hp (.lst []), .nil, Nat.zero_add _, h0⟩, fun i m H h => ?_⟩
  obtain ⟨Hf1, μ1, us, acc, e1, s1, r1, hm, h1⟩ := h
  by_cases hlt : i < ds.length
  · right
    rw [List.drop_eq_getElem_cons hlt] at h1
    obtain ⟨hok, hacc, h2⟩ := h1
    obtain ⟨hgo, hy⟩ := (io A _ Hf1 μ1 H i e1 ⟨s1, am' _ _ e1⟩ hok).1 _ (List.getElem?_eq_getElem hlt)
    refine ⟨hgo, fun H' => ∃ Hf2 μ2 us2 acc2, Same Hf0 Hf2 ∧ HR K (upd Fr p (.lst us2)) Hf2 μ2 H' ∧ Reps K Hf2 us2 acc2 ∧ (i + 1) + (m - 1) = ds.length ∧ dLc2.go g tt it1 g1 tt1 te vs vs1 ρ k ok (ds.drop (i + 1)) acc2 μ2, fun H' h => ⟨m - 1, by omega, h⟩, fun x H' hx => ?_⟩
    obtain ⟨Hf2, e2, s2, r2⟩ := hy x H' hx
    refine ⟨_, Hf2, μ1, _, _, _, s2, sl0.mono (e1.trans e2), r2, h2, fun Hf3 μ3 H3 σ3 ρ3 e3 s3 sl3 kg h3 => ⟨wipe_kg kg hw, ?_⟩⟩
    refine ⟨_, Hf3, μ3, ρ3, _, s3, sl3, h3, fun Hf4 μ4 H4 b e4 s4 h4 => ?_⟩
    split at h4
    · next hb =>
      rw [if_pos hb]
      refine ⟨_, Hf4, μ4, ρ3, _, s4, sl3.mono e4, h4, fun Hf5 μ5 H5 J1 ds1 ok1 e5 s5 io1 h5 => ?_⟩
      have e05 := e1.trans (e2.trans (e3.trans (e4.trans e5)))
      refine lc_loop (σ := σ3) (vs := vs1) (Hf := Hf5) hn (A.mono (Same.refl _) e05 s0.am) io1 s5.hr (r1.mono (e2.trans (e3.trans (e4.trans e5)))) ((sl3.mono (e4.trans e5)).wipe vs1) hw1 h5 fun Hf6 μ6 H6 us6 xs6 e6 s6 r6 h6 => ?_
      exact ⟨Hf6, μ6, us6, xs6, e05.trans e6, s6, r6, by omega, h6⟩
    · next hb =>
      rw [if_neg hb]
      exact ⟨Hf4, μ4, us, acc, e1.trans (e2.trans (e3.trans e4)), s4.hr, r1.mono (e2.trans (e3.trans e4)), by omega, h4⟩
  · left
    rw [List.drop_eq_nil_of_le (by omega)] at h1
    exact ⟨(io A _ Hf1 μ1 H i e1 ⟨s1, am' _ _ e1⟩ h1.1).2 (by omega), kk _ _ _ _ _ _ (e0.trans e1) hn s1 r1 h1.2⟩
end
/-! ### the rules -/
def PTsD (X : Cx) (A : Amb) (ifs : List Expr) (t : DT) : Prop := PTs X ifs (tDT X.K A t)
def dYes : DT := fun _ μ k => k true μ
/-- in every block of the comprehension -/
abbrev Blk (X : Cx) (scope : Scope) (P : Cx → Prop) : Prop := ∀ (s : Shared) (H : Hp) (C : Addr) (cl : List (Str × Addr)) (fp : List Addr), P (X.blk s H scope (compEnvC scope cl C X.env) fp)
section
variable {X : Cx} {A : Amb} {elt tg iter tg1 iter1 c : Expr} {ifs ifs1 : List Expr} {scope : Scope} {own : List (Str × Nat)} {pos : Pos} {it it1 : DI} {g g1 : DG} {tt tt1 : DT} {te : DE} {ws ws1 vs1 : List Nat}
theorem PTs.imp {t t' : TT} (h : PTs X ifs t) (i : ∀ σ H Q, t' σ H Q → t σ H Q) : PTs X ifs t' := ⟨fun pins s σ H Q I q => h.run pins s σ H Q I (i _ _ _ q)⟩
theorem ptsd_nil : PTsD X A [] dYes := PTs.imp pts_nil fun σ H Q q => by
  obtain ⟨Fr, Hf, μ, ρ, k, s, sl, hd, kk⟩ := q
  exact kk _ _ _ _ (Same.refl _) s hd
theorem ptsd_one {t : DT} (h : PTD X A c t) : PTsD X A [c] t := pts_one h
theorem pd_lcF (hc : X.calm = true) (hN : X.N.Nodup) (hi : PID X A tg iter it) (ok : blkC X.N X.env.scope scope own = true) (hg : Blk X scope fun Y => PGD Y A tg g ws) (ht : Blk X scope fun Y => PTsD Y A ifs tt) (he : Blk X scope fun Y => PD Y A elt te)
    (hw : ∀ i ∈ ws, i ∈ own.map (·.2) := by decide) (hs : ∀ x, foldedSetIterable iter X.env x = pure x := by intro _; rfl) : PD X A (.ListComp elt [⟨tg, iter, ifs, 0⟩] scope pos) (dFz (dLc it g tt te (own.map (·.2)))) :=
  pd_fz (pe_lc (g := tDG X.K A g ws) (tt := tDT X.K A tt) (te := tD X.K A te) hc hN hi (blkOk_by ok) hg ht he hs) (sdl_lc hw)
theorem pd_lcM (hc : X.calm = true) (hN : X.N.Nodup) (hi : PID X A tg iter it) (ok : blkC X.N X.env.scope scope own = true) (hg : Blk X scope fun Y => PGD Y A tg g ws) (ht : Blk X scope fun Y => PTsD Y A ifs tt) (he : Blk X scope fun Y => PD Y A elt te)
    (hw : ∀ i ∈ ws, i ∈ own.map (·.2) := by decide) (hs : ∀ x, foldedSetIterable iter X.env x = pure x := by intro _; rfl) : PD X A (.ListComp elt [⟨tg, iter, ifs, 0⟩] scope pos) (dMut (dLc it g tt te (own.map (·.2)))) :=
  pd_mut (pe_lc (g := tDG X.K A g ws) (tt := tDT X.K A tt) (te := tD X.K A te) hc hN hi (blkOk_by ok) hg ht he hs) (sdl_lc hw)
theorem pd_lc2F (hc : X.calm = true) (hN : X.N.Nodup) (hi : PID X A tg iter it) (ok : blkC X.N X.env.scope scope own = true) (hv : ∀ i ∈ vs1, i ∈ own.map (·.2)) (hg : Blk X scope fun Y => PGD Y A tg g ws) (ht : Blk X scope fun Y => PTsD Y A ifs tt)
    (hi1 : Blk X scope fun Y => PID Y A tg1 iter1 it1) (hg1 : Blk X scope fun Y => PGD Y A tg1 g1 ws1) (ht1 : Blk X scope fun Y => PTsD Y A ifs1 tt1) (he : Blk X scope fun Y => PD Y A elt te)
    (hw : ∀ i ∈ ws, i ∈ own.map (·.2) := by decide) (hw1 : ∀ i ∈ ws1, i ∈ vs1 := by decide) (hs : ∀ x, foldedSetIterable iter X.env x = pure x := by intro _; rfl) (hs1 : ∀ env x, foldedSetIterable iter1 env x = pure x := by intro _ _; rfl) :
    PD X A (.ListComp elt [⟨tg, iter, ifs, 0⟩, ⟨tg1, iter1, ifs1, 0⟩] scope pos) (dFz (dLc2 it g tt it1 g1 tt1 te (own.map (·.2)) vs1)) :=
  pd_fz (pe_lc2 (g := tDG X.K A g ws) (tt := tDT X.K A tt) (te := tD X.K A te) (wi1 := tDI X.K A it1) (g1 := tDG X.K A g1 ws1) (tt1 := tDT X.K A tt1) hc hN hi (blkOk_by ok) hv hg ht hi1 hg1 ht1 he hs hs1) (sdl_lc2 hw hw1)
end
/-! ### pure comprehensions -/
abbrev EvG := D → Ro → Mu → Option Ro
def dgP (gp : EvG) : DG := fun x ρ μ k => ∃ ρ', gp x ρ μ = some ρ' ∧ k ρ' μ
abbrev PGV (X : Cx) (A : Amb) (tg : Expr) (gp : EvG) (ws : List Nat) : Prop := PGD X A tg (dgP gp) ws
abbrev EvGs := List D → Ro → Mu → Option Ro
def dgsP (gp : EvGs) : DGs := fun x ρ μ k => ∃ ρ', gp x ρ μ = some ρ' ∧ k ρ' μ
abbrev PGsV (X : Cx) (A : Amb) (tg : List Expr) (gp : EvGs) (ws : List Nat) : Prop := PGsD X A tg (dgsP gp) ws
def egName (i : Nat) (x : D) (ρ : Ro) (_ : Mu) : Option Ro := some (setS ρ i (some x))
def egNil (xs : List D) (ρ : Ro) (_ : Mu) : Option Ro := match xs with
  | [] => some ρ
  | _ => none
def egCons (g : EvG) (gs : EvGs) (xs : List D) (ρ : Ro) (μ : Mu) : Option Ro := match xs with
  | x :: r => (g x ρ μ).bind fun ρ1 => gs r ρ1 μ
  | [] => none
def egTup (n : Nat) (gs : EvGs) (x : D) (ρ : Ro) (μ : Mu) : Option Ro := (itemsT x).bind fun xs => if xs.length = n then gs xs ρ μ else none
section
variable {X : Cx} {A : Amb} {e tg : Expr} {es : List Expr} {pos : Pos}
theorem PGD.imp {g g' : DG} {ws : List Nat} (h : PGD X A tg g ws) (i : ∀ x ρ μ k, g' x ρ μ k → g x ρ μ k) : PGD X A tg g' ws := PG.imp h fun v σ H Q q => by
  obtain ⟨Fr, Hf, μ, ρ, x, k, s, sl, r, hd, kk⟩ := q
  exact ⟨Fr, Hf, μ, ρ, x, k, s, sl, r, i _ _ _ _ hd, kk⟩
theorem PGsD.imp {g g' : DGs} {ws : List Nat} (h : PGsD X A es g ws) (i : ∀ x ρ μ k, g' x ρ μ k → g x ρ μ k) : PGsD X A es g' ws := PGs.imp h fun v σ H Q q => by
  obtain ⟨Fr, Hf, μ, ρ, x, k, s, sl, r, hd, kk⟩ := q
  exact ⟨Fr, Hf, μ, ρ, x, k, s, sl, r, i _ _ _ _ hd, kk⟩
theorem pgv_name {i : Nat} {x : Str} (hN : X.N.Nodup) (hi : X.N[i]? = some x := by rfl) (hx : Loc X.env.scope x := by first | exact Or.inl rfl | exact Or.inr rfl) (hf : X.fn x = true ∨ X.env.scope.names.lookup x = some .local := by first | exact .inl rfl | exact .inr rfl) : PGV X A (.Name x pos) (egName i) [i] :=
  (pgd_name hN hi hx hf).imp fun x ρ μ k h => by
    obtain ⟨ρ', h1, h2⟩ := h
    cases h1
    exact h2
theorem pgsv_nil : PGsV X A [] egNil [] := pgsd_nil.imp fun x ρ μ k h => by
  obtain ⟨ρ', h1, h2⟩ := h
  cases x with
  | nil =>
    cases h1
    exact ⟨rfl, h2⟩
  | cons => cases h1
theorem pgsv_cons {g : EvG} {gs : EvGs} {ws us : List Nat} (h1 : PGV X A e g ws) (h2 : PGsV X A es gs us)
    (hs : (assignEach (e :: es) X.env).map (·.2) = assign e X.env :: (assignEach es X.env).map (·.2) := by rfl) : PGsV X A (e :: es) (egCons g gs) (ws ++ us) := (pgsd_cons h1 h2 hs).imp fun x ρ μ k h => by
  obtain ⟨ρ', h1, h2⟩ := h
  cases x with
  | nil => cases h1
  | cons x r =>
    simp only [egCons] at h1
    cases h3 : g x ρ μ with
    | none => rw [h3] at h1; cases h1
    | some ρ1 =>
      rw [h3] at h1
      exact ⟨ρ1, h3, ρ', h1, h2⟩
theorem pgv_tup {gs : EvGs} {ws : List Nat} {k n : _} (hc : X.calm = true) (h : PGsV X A es gs ws)
    (hn : (assignEach es X.env).length = n := by rfl) (hst : (assignEach es X.env).findIdx? (·.1) = none := by rfl) : PGV X A (.Tuple es k pos) (egTup n gs) ws := (pgd_tup hc h hn hst).imp fun x ρ μ k h => by
  obtain ⟨ρ', h1, h2⟩ := h
  unfold egTup at h1
  cases h3 : itemsT x with
  | none => rw [h3] at h1; cases h1
  | some xs =>
    rw [h3] at h1
    simp only [Option.bind_some] at h1
    split at h1
    · next hl => exact ⟨xs, h3, hl, ρ', h1, h2⟩
    · cases h1
end
def lcGo (g : EvG) (tt : EvT) (te : EvE) (ρ' : Ro) (μ : Mu) : List D → Option (List D)
  | [] => some []
  | x :: r => (g x ρ' μ).bind fun ρ1 => (tt ρ1 μ).bind fun b => if b = true then (te ρ1 μ).bind fun y => (lcGo g tt te ρ' μ r).bind fun ys => some (y :: ys) else lcGo g tt te ρ' μ r
def eYes (_ : Ro) (_ : Mu) : Option Bool := some true
def eLc (ip : EvI) (g : EvG) (tt : EvT) (te : EvE) (vs : List Nat) (ρ : Ro) (μ : Mu) : Option D := (ip ρ μ).bind fun ds => if ds.length ≤ 100000 then (lcGo g tt te (unsetAll ρ vs) μ ds).bind fun ys => some (.lst ys) else none
theorem lcGo_len {g : EvG} {tt : EvT} {te : EvE} {ρ' : Ro} {μ : Mu} : ∀ {ds ys : List D}, lcGo g tt te ρ' μ ds = some ys → ys.length ≤ ds.length
  | [], ys, h => by cases h; exact Nat.le_refl _
  | x :: r, ys, h => by
    simp only [lcGo] at h
    cases h1 : g x ρ' μ with
    | none => rw [h1] at h; cases h
    | some ρ1 =>
      rw [h1] at h
      simp only [Option.bind_some] at h
      cases h2 : tt ρ1 μ with
      | none => rw [h2] at h; cases h
      | some b =>
        rw [h2] at h
        simp only [Option.bind_some] at h
        split at h
        · cases h3 : te ρ1 μ with
          | none => rw [h3] at h; cases h
          | some y =>
            rw [h3] at h
            simp only [Option.bind_some] at h
            cases h4 : lcGo g tt te ρ' μ r with
            | none => rw [h4] at h; cases h
            | some zs =>
              rw [h4] at h
              cases h
              exact Nat.succ_le_succ (lcGo_len h4)
        · exact Nat.le_succ_of_le (lcGo_len h)
theorem lcGo_ok {g : EvG} {tt : EvT} {te : EvE} {ρ' : Ro} {μ : Mu} {ok : Mu → Prop} (hok : ok μ) {k : List D → Mu → Prop} : ∀ {ds ys acc : List D}, lcGo g tt te ρ' μ ds = some ys → acc.length + ds.length ≤ 100000 → k (acc ++ ys) μ → lcL (dgP g) (dPT tt) (dP te) ok ρ' ds acc μ k
  | [], ys, acc, h, hl, hk => by
    cases h
    rw [List.append_nil] at hk
    exact ⟨hok, hk⟩
  | x :: r, ys, acc, h, hl, hk => by
    simp only [lcGo] at h
    rw [List.length_cons] at hl
    cases h1 : g x ρ' μ with
    | none => rw [h1] at h; cases h
    | some ρ1 =>
      rw [h1] at h
      simp only [Option.bind_some] at h
      cases h2 : tt ρ1 μ with
      | none => rw [h2] at h; cases h
      | some b =>
        rw [h2] at h
        simp only [Option.bind_some] at h
        refine ⟨hok, by omega, ρ1, h1, b, h2, ?_⟩
        split at h
        · next hb =>
          rw [if_pos hb]
          cases h3 : te ρ1 μ with
          | none => rw [h3] at h; cases h
          | some y =>
            rw [h3] at h
            simp only [Option.bind_some] at h
            cases h4 : lcGo g tt te ρ' μ r with
            | none => rw [h4] at h; cases h
            | some zs =>
              rw [h4] at h
              cases h
              refine ⟨y, h3, lcGo_ok hok h4 ?_ ?_⟩
              · rw [List.length_append, List.length_singleton]
                omega
              · rw [List.append_assoc]
                exact hk
        · next hb =>
          rw [if_neg hb]
          exact lcGo_ok hok h (by omega) hk
section
variable {X : Cx} {A : Amb} {elt tg iter c : Expr} {ifs : List Expr} {scope : Scope} {own : List (Str × Nat)} {pos : Pos} {ip : EvI} {g : EvG} {tt : EvT} {te : EvE} {ws : List Nat}
abbrev PTsV (X : Cx) (A : Amb) (ifs : List Expr) (t : EvT) : Prop := PTsD X A ifs (dPT t)
theorem ptsv_nil : PTsV X A [] eYes := PTs.imp (ptsd_nil (A := A)) fun σ H Q q => by
  obtain ⟨Fr, Hf, μ, ρ, k, s, sl, ⟨b, hb, hd⟩, kk⟩ := q
  cases hb
  exact ⟨Fr, Hf, μ, ρ, k, s, sl, hd, kk⟩
theorem ptsv_one {t : EvT} (h : PTV X A c t) : PTsV X A [c] t := pts_one h
theorem pv_lc (hc : X.calm = true) (hN : X.N.Nodup) (hi : PIV X A tg iter ip) (ok : blkC X.N X.env.scope scope own = true) (hg : Blk X scope fun Y => PGV Y A tg g ws) (ht : Blk X scope fun Y => PTsV Y A ifs tt) (he : Blk X scope fun Y => PV Y A elt te)
    (hw : ∀ i ∈ ws, i ∈ own.map (·.2) := by decide) (hs : ∀ x, foldedSetIterable iter X.env x = pure x := by intro _; rfl) : PV X A (.ListComp elt [⟨tg, iter, ifs, 0⟩] scope pos) (eLc ip g tt te (own.map (·.2))) :=
  (pd_lcF hc hN hi ok hg ht he hw hs).imp fun ρ μ k h => by
    obtain ⟨d, hd, hk⟩ := h
    unfold eLc at hd
    cases h1 : ip ρ μ with
    | none => rw [h1] at hd; cases hd
    | some ds =>
      rw [h1] at hd
      simp only [Option.bind_some] at hd
      split at hd
      · next hl =>
        cases h2 : lcGo g tt te (unsetAll ρ (own.map (·.2))) μ ds with
        | none => rw [h2] at hd; cases hd
        | some ys =>
          rw [h2] at hd
          cases hd
          exact ⟨ds, h1, lcGo_ok (ok := fun μ' => μ' = μ) (k := fun xs μ1 => k (.lst xs) μ1) rfl h2 (by rw [List.length_nil]; omega) (by rw [List.nil_append]; exact hk)⟩
      · cases hd
/-- evaluation of a comprehension: each item gives one -/
theorem lcGo_map {α : Type} {ρ' : Ro} {μ : Mu} (f : α → D) (h : α → D) : ∀ (xs : List α), (∀ a ∈ xs, ∃ ρ1, g (f a) ρ' μ = some ρ1 ∧ tt ρ1 μ = some true ∧ te ρ1 μ = some (h a)) → lcGo g tt te ρ' μ (xs.map f) = some (xs.map h)
  | [], _ => rfl
  | a :: r, hx => by
    obtain ⟨ρ1, h1, h2, h3⟩ := hx a List.mem_cons_self
    simp only [List.map_cons, lcGo]
    rw [h1]
    simp only [Option.bind_some, h2, h3, if_true, lcGo_map f h r fun b hb => hx b (List.mem_cons_of_mem _ hb)]
/-- .. where a test chooses -/
theorem lcGo_filter {α : Type} {ρ' : Ro} {μ : Mu} (f : α → D) (q : α → Bool) (h : α → D) : ∀ (xs : List α), (∀ a ∈ xs, ∃ ρ1, g (f a) ρ' μ = some ρ1 ∧ tt ρ1 μ = some (q a) ∧ (q a = true → te ρ1 μ = some (h a))) → lcGo g tt te ρ' μ (xs.map f) = some ((xs.filter q).map h)
  | [], _ => rfl
  | a :: r, hx => by
    obtain ⟨ρ1, h1, h2, h3⟩ := hx a List.mem_cons_self
    have ih := lcGo_filter f q h r fun b hb => hx b (List.mem_cons_of_mem _ hb)
    simp only [List.map_cons, lcGo]
    rw [h1]
    simp only [Option.bind_some, h2]
    cases hq : q a with
    | true =>
      rw [List.filter_cons_of_pos hq, if_pos rfl, h3 hq]
      simp only [Option.bind_some, ih, List.map_cons]
    | false =>
      rw [List.filter_cons_of_neg (by rw [hq]; exact Bool.false_ne_true), if_neg Bool.false_ne_true]
      exact ih
end
end DL
end

section
set_option maxRecDepth 100000
/-! DL9: ghost steps, bodies of defs, fields that are set, instances that are made, keywords. -/
namespace DL
open PySem PySem.Spec PyProof.Rows L2

/-! ### ghost steps -/
mutual
/-- the list at p written as it stands -/
def sbL (p : Addr) (ys : List D) : D → D
  | .loc q => if q = p then .lst ys else .loc q
  | .tup xs => .tup (sbLs p ys xs)
  | .lst xs => .lst (sbLs p ys xs)
  | .non => .non
  | .bl b => .bl b
  | .int i => .int i
  | .str x => .str x
  | .scr ns => .scr ns
def sbLs (p : Addr) (ys : List D) : List D → List D
  | [] => []
  | x :: r => sbL p ys x :: sbLs p ys r
end
mutual
theorem rep_sb {K : PySem.W.Frag} {H : Hp} {p : Addr} {us : List V} {ys : List D} (hp : H p = some (.lst us)) (ru : Reps K H us ys) : ∀ {v : V} {x : D}, Rep K H v x → Rep K H v (sbL p ys x)
  | _, _, .non => .non
  | _, _, .bl => .bl
  | _, _, .int => .int
  | _, _, .str => .str
  | _, _, .tup h r => .tup h (reps_sb hp ru r)
  | _, _, .lst h r => .lst h (reps_sb hp ru r)
  | _, _, .scr h => .scr h
  | _, _, .loc (a := a) => by
    simp only [sbL]
    split
    · next h =>
      subst h
      exact .lst hp ru
    · exact .loc
theorem reps_sb {K : PySem.W.Frag} {H : Hp} {p : Addr} {us : List V} {ys : List D} (hp : H p = some (.lst us)) (ru : Reps K H us ys) : ∀ {vs : List V} {xs : List D}, Reps K H vs xs → Reps K H vs (sbLs p ys xs)
  | _, _, .nil => .nil
  | _, _, .cons a t => .cons (rep_sb hp ru a) (reps_sb hp ru t)
end
/-- all of μ stays within μ' -/
def Ext (μ μ' : Mu) : Prop := ∀ a m, μ a = some m → μ' a = some m
theorem Ext.refl (μ : Mu) : Ext μ μ := fun _ _ h => h
theorem Ext.trans {μ μ1 μ2 : Mu} (a : Ext μ μ1) (b : Ext μ1 μ2) : Ext μ μ2 := fun c m h => b c m (a c m h)
theorem Ext.new {μ μ' : Mu} {p : Addr} {m : MO} (e : Ext μ μ') (h : μ p = none) : Ext μ (updM μ' p m) := fun a o q => by
  rw [updM_ne (ne_of_mu q h)]
  exact e a o q
theorem Ext.del {μ μ' : Mu} {p : Addr} (e : Ext μ μ') (h : μ p = none) : Ext μ (delM μ' p) := fun a o q => by
  unfold delM
  rw [if_neg (ne_of_mu q h)]
  exact e a o q
theorem Ext.none {μ μ' : Mu} (e : Ext μ μ') {p : Addr} (h : μ' p = none) : μ p = none := by
  cases q : μ p with
  | none => rfl
  | some m =>
    rw [e p m q] at h
    cases h
inductive GhV (k : DK) : D → Mu → Prop where
  | done {x : D} {μ : Mu} : k x μ → GhV k x μ
  /-- what is not needed is forgotten -/
  | drop {x : D} {μ : Mu} (μ' : Mu) : Ext μ' μ → GhV k x μ' → GhV k x μ
  /-- a list will not change any more -/
  | frz {x : D} {μ : Mu} (p : Addr) (xs : List D) : μ p = some (.lst xs) → GhV k (sbL p xs x) (delM μ p) → GhV k x μ
theorem RS.frz {K : PySem.W.Frag} {A : Amb} {Fr Hf H : Hp} {μ : Mu} {a : Addr} {xs : List D} (s : RS K A Fr Hf μ H) (ha : μ a = some (.lst xs)) : ∃ vs, Hf a = none ∧ Reps K Hf vs xs ∧ RS K A Fr (upd Hf a (.lst vs)) (delM μ a) H := by
  obtain ⟨vs, h1, h2, h3, h4⟩ := s.hr.frz ha
  exact ⟨vs, h2, h3, h4, A.mono (Same.refl _) (same_new h2) s.am⟩
theorem RS.drop {K : PySem.W.Frag} {A : Amb} {Fr Hf H : Hp} {μ μ' : Mu} (s : RS K A Fr Hf μ H) (e : Ext μ' μ) : RS K A Fr Hf μ' H := ⟨s.hr.drop e, s.am⟩
theorem GhV.run {K : PySem.W.Frag} {A : Amb} {k : DK} {x : D} {μ : Mu} (h : GhV k x μ) : ∀ {Fr Hf H : Hp} {v : V} {Q : VK}, RS K A Fr Hf μ H → Rep K Hf v x → KK K A Fr Hf k Q → Q v H := by
  induction h with
  | done hk => exact fun s r kk => kk.at s r hk
  | drop μ' e _ ih => exact fun s r kk => ih (s.drop e) r kk
  | frz p xs hp _ ih =>
    intro Fr Hf H v Q s r kk
    obtain ⟨vs, h1, h2, s2⟩ := s.frz hp
    exact ih s2 (rep_sb upd_same (h2.mono (same_new h1)) (r.mono (same_new h1))) (kk.go (same_new h1))
theorem KK.gh {K : PySem.W.Frag} {A : Amb} {Fr Hf : Hp} {k : DK} {Q : VK} (h : KK K A Fr Hf k Q) : KK K A Fr Hf (GhV k) Q := fun _ _ _ _ _ e s r g => g.run s r (h.go e)
/-- the slots -/
def sbR (p : Addr) (ys : List D) : Ro → Ro := List.map (Option.map (sbL p ys))
theorem slr_sb {K : PySem.W.Frag} {H : Hp} {p : Addr} {us : List V} {ys : List D} (hp : H p = some (.lst us)) (ru : Reps K H us ys) : ∀ {σ : Sg} {ρ : Ro}, SlR K H σ ρ → SlR K H σ (sbR p ys ρ)
  | _, _, .nil => .nil
  | _, _, .cons (d := d) a t => .cons (by
      cases d with
      | none => trivial
      | some d =>
        obtain ⟨v, e, r⟩ := a
        exact ⟨v, e, rep_sb hp ru r⟩) (slr_sb hp ru t)
inductive GhS (k : Ro → Mu → Prop) : Ro → Mu → Prop where
  | done {ρ : Ro} {μ : Mu} : k ρ μ → GhS k ρ μ
  | drop {ρ : Ro} {μ : Mu} (μ' : Mu) : Ext μ' μ → GhS k ρ μ' → GhS k ρ μ
  | frz {ρ : Ro} {μ : Mu} (p : Addr) (xs : List D) : μ p = some (.lst xs) → GhS k (sbR p xs ρ) (delM μ p) → GhS k ρ μ
  | unset {ρ : Ro} {μ : Mu} (i : Nat) : GhS k (setS ρ i none) μ → GhS k ρ μ
theorem SlR.forget {K : PySem.W.Frag} {H : Hp} : ∀ {σ : Sg} {ρ : Ro} (i : Nat), SlR K H σ ρ → SlR K H σ (setS ρ i none)
  | _, _, _, .nil => .nil
  | _, _, 0, .cons _ t => .cons trivial t
  | _, _, i + 1, .cons a t => .cons a (SlR.forget i t)
theorem GhS.run {K : PySem.W.Frag} {A : Amb} {k : Ro → Mu → Prop} {ρ : Ro} {μ : Mu} (h : GhS k ρ μ) : ∀ {Fr Hf H : Hp} {σ : Sg} {Q : Sg → Hp → Prop}, RS K A Fr Hf μ H → SlR K Hf σ ρ → KN K A Fr Hf k Q → Q σ H := by
  induction h with
  | done hk => exact fun s r kk => kk _ _ _ _ _ (Same.refl _) s r hk
  | drop μ' e _ ih => exact fun s r kk => ih (s.drop e) r kk
  | frz p xs hp _ ih =>
    intro Fr Hf H σ Q s r kk
    obtain ⟨vs, h1, h2, s2⟩ := s.frz hp
    exact ih s2 (slr_sb upd_same (h2.mono (same_new h1)) (r.mono (same_new h1))) (kk.go (same_new h1))
  | unset i _ ih => exact fun s r kk => ih s (r.forget i) kk
/-- a block that ends in ghost steps -/
def sGh (d : DS) : DS := fun D ρ μ => d { D with nx := GhS D.nx, ct := GhS D.ct } ρ μ
theorem psd_gh {X : Cx} {A : Amb} {sts : List Stmt} {d : DS} (h : PSsD X A sts d) : PSsD X A sts (sGh d) := PSs.imp h fun D σ H q => by
  obtain ⟨Fr, Hf, μ, ρ, D', s, sl, hd, ks⟩ := q
  exact ⟨Fr, Hf, μ, ρ, _, s, sl, hd, ⟨fun _ _ _ _ _ e s r g => g.run s r (ks.nx.go e), ks.rt, ks.bk, fun _ _ _ _ _ e s r g => g.run s r (ks.ct.go e)⟩⟩
theorem psd_ghS {X : Cx} {A : Amb} {st : Stmt} {d : DS} (h : PSD X A st d) : PSD X A st (sGh d) := PS.imp h fun D σ H q => by
  obtain ⟨Fr, Hf, μ, ρ, D', s, sl, hd, ks⟩ := q
  exact ⟨Fr, Hf, μ, ρ, _, s, sl, hd, ⟨fun _ _ _ _ _ e s r g => g.run s r (ks.nx.go e), ks.rt, ks.bk, fun _ _ _ _ _ e s r g => g.run s r (ks.ct.go e)⟩⟩

/-! ### bodies -/
def startD (N : List Str) (ds : List D) : Ro := ds.map some ++ List.replicate (N.length - ds.length) none
theorem slr_none {K : PySem.W.Frag} {H : Hp} : ∀ (n : Nat), SlR K H (List.replicate n none) (List.replicate n none)
  | 0 => .nil
  | n + 1 => .cons trivial (slr_none n)
theorem slr_app {K : PySem.W.Frag} {H : Hp} : ∀ {σ τ : Sg} {ρ π : Ro}, SlR K H σ ρ → SlR K H τ π → SlR K H (σ ++ τ) (ρ ++ π)
  | _, _, _, _, .nil, h => h
  | _, _, _, _, .cons a t, h => .cons a (slr_app t h)
theorem slr_args {K : PySem.W.Frag} {H : Hp} : ∀ {vs : List V} {ds : List D}, Reps K H vs ds → SlR K H (vs.map some) (ds.map some)
  | _, _, .nil => .nil
  | _, _, .cons a t => .cons ⟨_, rfl, a⟩ (slr_args t)
theorem slr_start {K : PySem.W.Frag} {H : Hp} {N : List Str} {vs : List V} {ds : List D} (r : Reps K H vs ds) : SlR K H (L2.start N vs) (startD N ds) := by
  unfold L2.start startD
  rw [r.length]
  exact slr_app (slr_args r) (slr_none _)
section
variable {P : Program} {w : World} {K : PySem.W.Frag} {mg : Str → Option Value} {base : Heap}
/-- THE RULE for a def without defaults -/
theorem ok_fn {x qual : Str} {st : Stmt} {f : Addr} {fd : FuncData} {N ps : List Str} {k : Nat} {S : DC} (F : Fun K x qual st f fd) (Sc : FnScope N ps (defScope st)) (body : DS)
    (hb : ∀ (cdv : Value) (A : Around) (outer : List Env) (s : Shared) (H : Hp) (E : XK), Room k (A.deeper (envOfC qual (defScope st) s.heap.objs.size f cdv)) → PSsD (cxOf CX0 P w K mg base N qual (defScope st) f cdv A outer s H E).nox Amb.none (defBody st) body)
    (sem : ∀ ds μ kont, ds.length = ps.length → S ds μ kont → body { nx := fun _ μ' => GhV kont .non μ', rt := GhV kont } (startD N ds) μ) : FnOk P w K mg base CX0 (k + 1) f fd ps (dsp K ps.length S) :=
  F.ok Sc (fun vs H Q E h => dsp_len h) fun cdv A outer s H vs Q E hr h => by
    obtain ⟨Fr, Hf, μ, ds, kont, s1, r, hn, hS, kk⟩ := h
    refine ⟨_, hb cdv A outer s H E hr, Fr, Hf, μ, startD N ds, _, ⟨s1, trivial⟩, slr_start r, sem ds μ kont hn hS, ⟨fun Hf1 μ1 H1 σ1 ρ1 e1 s1 _ h1 => ?_, kk.gh, fun _ _ _ _ _ _ _ _ h => h.elim, fun _ _ _ _ _ _ _ _ h => h.elim⟩⟩
    exact h1.run s1 .non (kk.go e1)
/-- .. with defaults -/
theorem ok_fnD {x qual : Str} {params : Arguments} {body' : List Stmt} {scope : Scope} {dvs : List V} {kws : List (Str × V)} {f : Addr} {fd : FuncData} {N ps : List Str} {k : Nat} {S : DC} (F : FunD K x qual params body' scope dvs kws f fd) (Sc : FnScope N ps scope) (body : DS)
    (hb : ∀ (cdv : Value) (A : Around) (outer : List Env) (s : Shared) (H : Hp) (E : XK), Room k (A.deeper (envOfC qual scope s.heap.objs.size f cdv)) → PSsD (cxOf CX0 P w K mg base N qual scope f cdv A outer s H E).nox Amb.none body' body)
    (sem : ∀ ds μ kont, ds.length = ps.length → S ds μ kont → body { nx := fun _ μ' => GhV kont .non μ', rt := GhV kont } (startD N ds) μ) : FnOk P w K mg base CX0 (k + 1) f fd ps (dsp K ps.length S) :=
  F.ok (CX := CX0) Sc (fun vs H Q E h => dsp_len h) fun cdv A outer s H vs Q E hr h => by
    obtain ⟨Fr, Hf, μ, ds, kont, s1, r, hn, hS, kk⟩ := h
    refine ⟨_, (hb cdv A outer s H E hr).nox, Fr, Hf, μ, startD N ds, _, ⟨s1, trivial⟩, slr_start r, sem ds μ kont hn hS, ⟨fun Hf1 μ1 H1 σ1 ρ1 e1 s1 _ h1 => ?_, kk.gh, fun _ _ _ _ _ _ _ _ h => h.elim, fun _ _ _ _ _ _ _ _ h => h.elim⟩⟩
    exact h1.run s1 .non (kk.go e1)
theorem fnB_of {x : Str} {f : Addr} {fd : FuncData} {ps : List Str} {k m : Nat} {S : DC} (F : FnOk P w K mg base CX0 k f fd ps (dsp K m S)) (hm : mg x = some (.ref f)) (hk : PySem.W.keepIn K (.ref f) = true) (hb : Binds K fd ps []) : FnB P w K mg base k x [] m S :=
  ⟨f, fd, ps, [], [], F, hm, hk, hb, .nil, fun _ => .nil⟩
end
/-! ### fields that are set -/
def putFD (f : Str) (v : D) : List (Str × D) → List (Str × D)
  | [] => [(f, v)]
  | (g, x) :: r => if g = f then (g, v) :: r else (g, x) :: putFD f v r
theorem kvs_put {K : PySem.W.Frag} {Hf : Hp} {f : Str} {v : V} {x : D} (rx : Rep K Hf v x) : ∀ {l : List (Str × V)} {m : List (Str × D)}, Kvs K Hf l m → Kvs K Hf (putF f v l) (putFD f x m)
  | _, _, .nil => .cons rx .nil
  | _, _, .cons (k := k) a t => by
    simp only [putF, putFD]
    split
    · exact .cons rx t
    · exact .cons a (kvs_put rx t)
theorem kvs_len {K : PySem.W.Frag} {Hf : Hp} {κ : Type} : ∀ {l : List (κ × V)} {m : List (κ × D)}, Kvs K Hf l m → l.length = m.length
  | _, _, .nil => rfl
  | _, _, .cons _ t => congrArg (· + 1) (kvs_len t)
/-- the instance of C at a place -/
def insAt (C : Addr) (μ : Mu) (x : D) (k : Addr → List (Str × D) → Prop) : Prop := match x with
  | .loc p => ∃ fs, μ p = some (.ins C fs) ∧ k p fs
  | _ => False
section
variable {X : Cx} {A : Amb} {o e : Expr} {pos : Pos} {d dv : DE}
/-- e.f = value -/
def sFldS (C : Addr) (f : Str) (d dv : DE) : DS := fun D ρ μ => dv ρ μ fun y μ1 => d ρ μ1 fun x μ2 => insAt C μ2 x fun p fs => fs.length < 1000 ∧ D.nx ρ (updM μ2 p (.ins C (putFD f y fs)))
theorem psd_fld {C : Addr} {f : Str} {pos' : Pos} (hc : Cls X.K C) (hn : NoAttr X.K C f) (ho : PD X A o d) (hv : PD X A e dv) (hs : swapsWith e (some (.Attribute o f pos')) pos.line X.env = pure false := by rfl) : PSD X A (.Assign [.Attribute o f pos'] e pos) (sFldS C f d dv) :=
  PS.imp (ps_fld ho hv hs) fun D σ H q => by
    obtain ⟨Fr, Hf, μ, ρ, D', s, sl, hd, ks⟩ := q
    refine ⟨Fr, Hf, μ, ρ, _, s, sl, hd, fun Hf1 μ1 H1 v y e1 s1 r1 h1 => ?_⟩
    refine ⟨Fr, Hf1, μ1, ρ, _, s1, sl.mono e1, h1, fun Hf2 μ2 H2 w x e2 s2 r2 h2 => ?_⟩
    cases r2 <;> simp only [insAt] at h2
    case loc p =>
      obtain ⟨fs, hm, hl, hk⟩ := h2
      obtain ⟨dx, vs, hH, rs⟩ := insAt_ok s2.hr hm
      exact ⟨p, C, dx, vs, rfl, hH, hc, hn, by rw [kvs_len rs]; exact hl, ks.nx _ _ _ _ _ (e1.trans e2) (s2.set hm (show MOk X.K Hf2 (.ins C dx _) (.ins C _) from ⟨rfl, kvs_put (r1.mono e2) rs⟩)) (sl.mono (e1.trans e2)) hk⟩
/-- a field as a target -/
def dgFld (C : Addr) (f : Str) (d : DE) : DG := fun y ρ μ k => d ρ μ fun x μ1 => insAt C μ1 x fun p fs => fs.length < 1000 ∧ k ρ (updM μ1 p (.ins C (putFD f y fs)))
theorem pgd_fld {C : Addr} {f : Str} (hc : Cls X.K C) (hn : NoAttr X.K C f) (ho : PD X A o d) (ha : ∀ v, assign (.Attribute o f pos) X.env v = (do
      let ov ← holding [v] (eval o X.env)
      standAt pos.atName
      holding [v, ov] (setAttr ov f v)
      release [v, ov] []) := by intro _; rfl) : PGD X A (.Attribute o f pos) (dgFld C f d) [] := by
  refine ⟨fun pins s σ H v u Q I r q => ?_⟩
  obtain ⟨Fr, Hf, μ, ρ, y, k, s1, sl, ry, hd, kk⟩ := q
  rw [ha]
  have hd' : tD X.K A d σ H fun x H1 => ∃ Hf1 μ1 p fs, x = .ref p ∧ Same Hf Hf1 ∧ RS X.K A Fr Hf1 μ1 H1 ∧ μ1 p = some (.ins C fs) ∧ fs.length < 1000 ∧ k ρ (updM μ1 p (.ins C (putFD f y fs))) := by
    refine ⟨Fr, Hf, μ, ρ, _, s1, sl, hd, fun Hf1 μ1 H1 w x e1 s2 r1 h1 => ?_⟩
    cases r1 <;> simp only [insAt] at h1
    case loc p =>
      obtain ⟨fs, hm, hl, hk⟩ := h1
      exact ⟨Hf1, μ1, p, fs, rfl, e1, s2, hm, hl, hk⟩
  refine wpAny_bind (wpAny_holding (thn (ho.run pins s σ H _ I hd') fun ov s2 ⟨x, H1, I1, r1, Hf1, μ1, p, fs, ex, e1, s3, hm, hl, hk⟩ => ?_))
  subst ex
  obtain rfl : ov = Value.ref p := r1
  obtain ⟨dx, vs, hH, rs⟩ := insAt_ok s3.hr hm
  refine wpAny_bind (wpAny_standAt (wpAny_bind (wpAny_holding (setattr_ok I1 hH hc hn (by rw [kvs_len rs]; exact hl) r fun s4 I4 => ?_))))
  refine wpAny_release ⟨σ, _, I4, ?_⟩
  exact kk _ _ _ _ _ e1 (s3.set hm (show MOk X.K Hf1 (.ins C dx _) (.ins C _) from ⟨rfl, kvs_put (ry.mono e1) rs⟩)) (sl.mono e1) (KG.refl _ _) hk
end
/-! ### instances that are made -/
theorem HR.newU {K : PySem.W.Frag} {Fr Hf H : Hp} {μ : Mu} {p : Addr} (h : HR K Fr Hf μ H) (hp : H p = none) (o : HO) : HR K Fr Hf μ (upd H p o) where
  ex := fun b z e => by
    have e1 := h.ex b z e
    rw [upd_ne (ne_of_none e1 hp)]
    exact e1
  fr := fun b z e => by
    obtain ⟨e1, e2, e3⟩ := h.fr b z e
    rw [upd_ne (ne_of_none e1 hp)]
    exact ⟨e1, e2, e3⟩
  mu := fun b z e => by
    obtain ⟨e1, o', e2, e3⟩ := h.mu b z e
    rw [upd_ne (ne_of_none e2 hp)]
    exact ⟨e1, o', e2, e3⟩
def MkB (P : Program) (w : World) (K : PySem.W.Frag) (mg : Str → Option Value) (base : Heap) (k : Nat) (C : Addr) (x : Str) (m : Nat) (S : DC) : Prop :=
  ∃ (f : Addr) (fd : FuncData) (ps : List Str), FnOk P w K mg base CX0 k f fd ps (dsp K m S) ∧ Mk K C f ∧ mg x = some (.ref C) ∧ Binds K fd ps []
/-- .. with keywords ks alone, in the parameters' order -/
def MkKB (P : Program) (w : World) (K : PySem.W.Frag) (mg : Str → Option Value) (base : Heap) (k : Nat) (C : Addr) (x : Str) (ks : List Str) (m : Nat) (S : DC) : Prop :=
  ∃ (f : Addr) (fd : FuncData) (ps : List Str), FnOk P w K mg base CX0 k f fd ps (dsp K m S) ∧ Mk K C f ∧ mg x = some (.ref C) ∧ KBn K fd ps 1 ks (fun us ws => us ++ ws) (fun vs zs => vs ++ zs)
def MtKB (P : Program) (w : World) (K : PySem.W.Frag) (mg : Str → Option Value) (base : Heap) (k : Nat) (C : Addr) (x : Str) (ks : List Str) (m : Nat) (S : DC) : Prop :=
  ∃ (f : Addr) (fd : FuncData) (ps : List Str), FnOk P w K mg base CX0 k f fd ps (dsp K m S) ∧ Meth K C x f ∧ KBn K fd ps 1 ks (fun us ws => us ++ ws) (fun vs zs => vs ++ zs)
def dMake (C : Addr) (S : DC) (m : Nat) (t : DA) : DE := fun ρ μ k => t ρ μ fun xs μ1 => ∀ p, μ1 p = none → (D.loc p :: xs).length = m ∧ S (.loc p :: xs) (updM μ1 p (.ins C [])) (fun r μ2 => r = .non ∧ k (.loc p) μ2)
theorem make_ok {K : PySem.W.Frag} {A : Amb} {Fr Hf H : Hp} {μ : Mu} {C : Addr} {S : DC} {m : Nat} {vs : List V} {xs : List D} {k : DK} {Q : VK} {E : XK} (s : RS K A Fr Hf μ H) (r : Reps K Hf vs xs)
    (h : ∀ p, μ p = none → (D.loc p :: xs).length = m ∧ S (.loc p :: xs) (updM μ p (.ins C [])) (fun r μ2 => r = .non ∧ k (.loc p) μ2)) (kk : KK K A Fr Hf k Q) (x dx : Addr) (hx : H x = none) (hdx : H dx = none) (hne : dx ≠ x) :
    dsp K m S (.ref x :: vs) (upd (upd H dx (.own x)) x (.ins C dx [])) (fun v H2 => v = .non ∧ Q (.ref x) H2) E := by
  obtain ⟨h1, h2⟩ := h x (s.hr.mu_none hx)
  have hx' : (upd H dx (.own x)) x = none := by
    rw [upd_ne hne.symm]
    exact hx
  refine ⟨Fr, Hf, _, _, _, (s.hr.newU hdx (.own x)).newM hx' (show MOk K Hf (.ins C dx []) (.ins C []) from ⟨rfl, .nil⟩), .cons .loc r, h1, h2, fun Hf1 μ1 H1 v d e1 s1 r1 h3 => ?_⟩
  obtain ⟨rfl, hk⟩ := h3
  cases r1
  exact ⟨rfl, kk _ _ _ _ _ e1 ⟨s1.hr, A.mono (Same.refl _) e1 s.am⟩ .loc hk⟩
def dMakeK (C : Addr) (S : DC) (n m : Nat) (t : DA) : DE := fun ρ μ k => t ρ μ fun xs μ1 => xs.length = n ∧ ∀ p, μ1 p = none → (D.loc p :: xs).length = m ∧ S (.loc p :: xs) (updM μ1 p (.ins C [])) (fun r μ2 => r = .non ∧ k (.loc p) μ2)
def dMtK (C : Addr) (x : Str) (S : DC) (n m : Nat) (d : DE) (t : DA) : DE := fun ρ μ k => d ρ μ fun y μ1 => insNo C x μ1 y ∧ t ρ μ1 fun xs μ2 => xs.length = n ∧ (y :: xs).length = m ∧ S (y :: xs) μ2 k
/-- the keywords' values -/
def PKD (X : Cx) (A : Amb) (kws : List Keyword) (t : DA) : Prop := PK X kws (tDA X.K A t)
section
variable {X : Cx} {A : Amb} {o e : Expr} {es : List Expr} {pos p apos kpos : Pos} {d : DE} {t : DA} {kws : List Keyword} {nm : Option Str} {k j m : Nat} {C : Addr} {x : Str} {S : DC} {ks : List Str}
theorem PK.imp {t t' : TA} (h : PK X kws t) (i : ∀ σ H Q, t' σ H Q → t σ H Q) : PK X kws t' := ⟨fun p pins s σ H Q I q => h.run p pins s σ H Q I (i _ _ _ q)⟩
theorem pkd_nil : PKD X A [] dNil := PK.imp pk_nil fun σ H Q q => by
  obtain ⟨Fr, Hf, μ, ρ, k, s, sl, hd, kk⟩ := q
  exact kk _ _ _ _ _ (Same.refl _) s .nil hd
theorem pkd_cons (ha : PD X A e d) (hr : PKD X A kws t) : PKD X A (⟨nm, e, kpos⟩ :: kws) (dCons d t) := PK.imp (pk_cons ha hr) fun σ H Q q => by
  obtain ⟨Fr, Hf, μ, ρ, k, s, sl, hd, kk⟩ := q
  refine ⟨Fr, Hf, μ, ρ, _, s, sl, hd, fun Hf1 μ1 H1 v x e1 s1 r1 h1 => ?_⟩
  refine ⟨Fr, Hf1, μ1, ρ, _, s1, sl.mono e1, h1, fun Hf2 μ2 H2 vs xs e2 s2 r2 h2 => ?_⟩
  exact kk _ _ _ _ _ (e1.trans e2) s2 (.cons (r1.mono e2) r2) h2
theorem pd_make (B : MkB X.prog X.w X.K X.mg X.base k C x m S) (hr : Room j X.A) (hg : Gl X x) (ha : PAD X A (e :: es) t) (hk : k + 1 ≤ j := by decide) (hdb : (x == ("__debug__" : Str)) = false := by decide)
    (he : starEach (e :: es) X.env = (false, eval e X.env) :: starEach es X.env := by rfl) (hpl : (backTo pos (starEach es X.env)).any (·.1) = false := by rfl) :
    PD X A (.Call (.Name x p) (e :: es) [] pos) (dMake C S m t) := by
  obtain ⟨f, fd, ps, F, hm, hmg, hb⟩ := B
  refine PE.imp (pe_make hm F (hr.mono hk) hg hmg hb .nil (pass0 (X := X)) ha hdb he hpl) fun σ H Q q => ?_
  obtain ⟨Fr, Hf, μ, ρ, k, s, sl, hd, kk⟩ := q
  refine ⟨Fr, Hf, μ, ρ, _, s, sl, hd, fun Hf1 μ1 H1 vs xs e1 s1 r1 h1 => ?_⟩
  refine fun x' dx' h2 h3 h4 => ?_
  rw [List.append_nil]
  exact make_ok s1 r1 h1 (kk.go e1) x' dx' h2 h3 h4
theorem pd_makeK (B : MkKB X.prog X.w X.K X.mg X.base k C x ks m S) (hr : Room j X.A) (hg : Gl X x) (hkw : PKD X A kws t) {n : Nat} (hn : ks.length = n := by rfl) (hk : k + 1 ≤ j := by decide)
    (hall : (backToKw pos (keywordEach kws X.env)).all (·.1.isSome) = true := by rfl) (hks : (backToKw pos (keywordEach kws X.env)).filterMap (·.1) = ks := by rfl) (hdb : (x == ("__debug__" : Str)) = false := by decide)
    (hpl : ((backTo pos (starEach [] X.env)).any (·.1) || (backToKw pos (keywordEach kws X.env)).any (·.1.isNone)) = false := by rfl) :
    PD X A (.Call (.Name x p) [] kws pos) (dMakeK C S n m t) := by
  subst hn
  obtain ⟨f, fd, ps, F, hm, hmg, hb⟩ := B
  refine PE.imp (pe_makeK0 hm F (hr.mono hk) hg hmg hb (pass0 (X := X)) hkw hall hks hdb hpl) fun σ H Q q => ?_
  obtain ⟨Fr, Hf, μ, ρ, k, s, sl, hd, kk⟩ := q
  refine ⟨Fr, Hf, μ, ρ, _, s, sl, hd, fun Hf1 μ1 H1 vs xs e1 s1 r1 h1 => ?_⟩
  exact ⟨rfl, r1.length.trans h1.1, make_ok s1 r1 h1.2 (kk.go e1)⟩
/-- o.m(k = v, ..) -/
theorem pd_mtK {pl : Sem Bool} (B : MtKB X.prog X.w X.K X.mg X.base k C x ks m S) (hc : Cls X.K C) (hr : Room j X.A) (ho : PD X A o d) (hkw : PKD X A kws t) {n : Nat} (hn : ks.length = n := by rfl) (hk : k ≤ j := by decide)
    (hall : (backToKw pos (keywordEach kws X.env)).all (·.1.isSome) = true := by rfl) (hks : (backToKw pos (keywordEach kws X.env)).filterMap (·.1) = ks := by rfl)
    (hpl : ((backTo pos (starEach [] X.env)).any (·.1) || (backToKw pos (keywordEach kws X.env)).any (·.1.isNone)) = false := by rfl)
    (ht : eval (.Call (.Attribute o x apos) [] kws pos) X.env = (do
      let ov ← eval o X.env
      standAt apos.atName
      let (f, first) ← holding [ov] (getMethod ov x pl)
      callWith pos f first (backTo pos (starEach [] X.env)) (backToKw pos (keywordEach kws X.env))) := by rfl) :
    PD X A (.Call (.Attribute o x apos) [] kws pos) (dMtK C x S n m d t) := by
  subst hn
  obtain ⟨f, fd, ps, F, hm, hb⟩ := B
  refine ⟨fun pins s σ H Q I q => ?_⟩
  obtain ⟨Fr, Hf, μ, ρ, kont, s0, sl, hd, kk⟩ := q
  have hd' : tD X.K A d σ H fun v H1 => ∃ Hf1 μ1 a fs, v = .ref a ∧ Same Hf Hf1 ∧ RS X.K A Fr Hf1 μ1 H1 ∧ μ1 a = some (.ins C fs) ∧ fs.lookup x = none ∧ t ρ μ1 fun xs μ2 => xs.length = ks.length ∧ (D.loc a :: xs).length = m ∧ S (.loc a :: xs) μ2 kont := by
    refine ⟨Fr, Hf, μ, ρ, _, s0, sl, hd, fun Hf1 μ1 H1 w y e1 s1 r1 h1 => ?_⟩
    obtain ⟨h2, h3⟩ := h1
    cases r1 <;> simp only [insNo] at h2
    case loc a =>
      obtain ⟨fs, hm, hl⟩ := h2
      exact ⟨Hf1, μ1, a, fs, rfl, e1, s1, hm, hl, h3⟩
  refine PySem.W.methodCall_KW (pl := pl) (thn (ho.run pins s σ H _ I hd') fun u s1 ⟨v, H1, I1, rv, Hf1, μ1, a, fs, ev, e1, r1, hma, hl, h3⟩ => ?_) ht
  subst ev
  obtain rfl : u = Value.ref a := rv
  obtain ⟨dx, vs, hH, rs⟩ := insAt_ok r1.hr hma
  refine getmeth_ok I1 hH hc hm (rs.lookN hl) ?_
  refine PySem.W.callWith_KW0 (h₀ := X.base) (first := [.ref a]) I1.ok.mod.kin hm.kp hall ?_ hpl
  refine thn (hkw.run pos pins s1 σ H1 _ I1 ⟨Fr, Hf1, μ1, ρ, _, r1, sl.mono e1, h3, fun Hf2 μ2 H2 zs xs e2 s2 r2 h4 => (⟨Hf2, μ2, xs, e2, s2, r2, h4⟩ : ∃ Hf2 μ2 xs, Same Hf1 Hf2 ∧ RS X.K A Fr Hf2 μ2 H2 ∧ Reps X.K Hf2 zs xs ∧ xs.length = ks.length ∧ (D.loc a :: xs).length = m ∧ S (.loc a :: xs) μ2 kont)⟩) fun ws s2 ⟨zs, H2, I2, rz, Hf2, μ2, xs, e2, r2, rx, h4, h5, h6⟩ => ⟨I2.kIn, ?_⟩
  rw [hks]
  refine run_fnN (us := [.ref a]) (vs := [.ref a]) F (hr.mono hk) hb (pass0 (X := X)) I2 (.cons rfl .nil) rz rfl (rx.length.trans h4) ?_
  exact ⟨Fr, Hf2, μ2, _, kont, r2.hr, .cons .loc rx, h5, h6, kk_none r2.am (kk.go (e1.trans e2))⟩
end
end DL
end

section
set_option maxRecDepth 100000
/-! DL10: the rest: comprehensions that are set, three at once, sorted rows, sums of bools, texts. -/
namespace DL
open PySem PySem.Spec PyProof.Rows L2

section
variable {X : Cx} {A : Amb} {K : PySem.W.Frag} {e a b c o : Expr} {pos : Pos} {es : List Expr} {ev ea eb : EvE} {ts : EvA}
/-! ### name = [..] -/
theorem asg_lx {l : DLx} {t : TE} {i : Nat} (hs : SdL X.K A l t) {D : Ends} {σ : Sg} {H : Hp} (q : tDS X.K A (sAsg (dFz l) (dgName i)) D σ H) : tAsg t (gName i) D σ H := by
  obtain ⟨Fr, Hf, μ, ρ, D', s, sl, hd, ks⟩ := q
  refine hs Fr Hf μ H σ ρ _ _ s sl hd fun Hf1 μ1 H1 p us xs e1 hn s1 r1 h1 => ?_
  have hp := (s1.fr p _ upd_same).2.1
  have e2 := e1.trans (same_new (o := HO.lst us) hp)
  exact ks.nx _ _ _ _ _ e2 ⟨s1.fzFr hn, A.mono (Same.refl _) e2 s.am⟩ ((sl.mono e2).set (.lst upd_same (r1.mono (same_new hp))) i) h1
theorem asg_lxM {l : DLx} {t : TE} {i : Nat} (hs : SdL X.K A l t) {D : Ends} {σ : Sg} {H : Hp} (q : tDS X.K A (sAsg (dMut l) (dgName i)) D σ H) : tAsg t (gName i) D σ H := by
  obtain ⟨Fr, Hf, μ, ρ, D', s, sl, hd, ks⟩ := q
  refine hs Fr Hf μ H σ ρ _ _ s sl hd fun Hf1 μ1 H1 p us xs e1 hn s1 r1 h1 => ?_
  have hp := s1.fr p _ upd_same
  exact ks.nx _ _ _ _ _ e1 ⟨HR.back hn s1 (show MOk X.K Hf1 (.lst us) (.lst xs) from r1), A.mono (Same.refl _) e1 s.am⟩ ((sl.mono e1).set .loc i) (h1 p hp.2.2)
section
variable {elt tg iter : Expr} {ifs : List Expr} {scope : Scope} {own : List (Str × Nat)} {spos py : Pos} {y : Str} {i : Nat} {it : DI} {g : DG} {tt : DT} {te : DE} {ws : List Nat} {ip : EvI} {gp : EvG} {tp : EvT} {ep : EvE}
theorem psd_setLcF (hc : X.calm = true) (hN : X.N.Nodup) (hi : PID X A tg iter it) (ok : blkC X.N X.env.scope scope own = true) (hg : Blk X scope fun Y => PGD Y A tg g ws) (ht : Blk X scope fun Y => PTsD Y A ifs tt) (he : Blk X scope fun Y => PD Y A elt te)
    (hsw : swapsWith (.ListComp elt [⟨tg, iter, ifs, 0⟩] scope pos) (some (.Name y py)) spos.line X.env = pure true) (hy : X.N[i]? = some y := by rfl) (hyl : X.env.scope.names.lookup y = some .local := by rfl)
    (hw : ∀ i ∈ ws, i ∈ own.map (·.2) := by decide) (hs : ∀ x, foldedSetIterable iter X.env x = pure x := by intro _; rfl) :
    PSD X A (.Assign [.Name y py] (.ListComp elt [⟨tg, iter, ifs, 0⟩] scope pos) spos) (sAsg (dFz (dLc it g tt te (own.map (·.2)))) (dgName i)) :=
  PS.imp (ps_setLc (g := tDG X.K A g ws) (tt := tDT X.K A tt) (te := tD X.K A te) hc hN hy hyl hsw hi (blkOk_by ok) hg ht he hs) fun D σ H q => asg_lx (sdl_lc hw) q
theorem psd_setLcM (hc : X.calm = true) (hN : X.N.Nodup) (hi : PID X A tg iter it) (ok : blkC X.N X.env.scope scope own = true) (hg : Blk X scope fun Y => PGD Y A tg g ws) (ht : Blk X scope fun Y => PTsD Y A ifs tt) (he : Blk X scope fun Y => PD Y A elt te)
    (hsw : swapsWith (.ListComp elt [⟨tg, iter, ifs, 0⟩] scope pos) (some (.Name y py)) spos.line X.env = pure true) (hy : X.N[i]? = some y := by rfl) (hyl : X.env.scope.names.lookup y = some .local := by rfl)
    (hw : ∀ i ∈ ws, i ∈ own.map (·.2) := by decide) (hs : ∀ x, foldedSetIterable iter X.env x = pure x := by intro _; rfl) :
    PSD X A (.Assign [.Name y py] (.ListComp elt [⟨tg, iter, ifs, 0⟩] scope pos) spos) (sAsg (dMut (dLc it g tt te (own.map (·.2)))) (dgName i)) :=
  PS.imp (ps_setLc (g := tDG X.K A g ws) (tt := tDT X.K A tt) (te := tD X.K A te) hc hN hy hyl hsw hi (blkOk_by ok) hg ht he hs) fun D σ H q => asg_lxM (sdl_lc hw) q
theorem PSD.imp {st : Stmt} {d d' : DS} (h : PSD X A st d) (i : ∀ D ρ μ, d' D ρ μ → d D ρ μ) : PSD X A st d' := PS.imp h fun D σ H q => by
  obtain ⟨Fr, Hf, μ, ρ, D', s, sl, hd, ks⟩ := q
  exact ⟨Fr, Hf, μ, ρ, D', s, sl, i _ _ _ hd, ks⟩
theorem eLc_fz {vs : List Nat} : ∀ ρ μ k, dP (eLc ip gp tp ep vs) ρ μ k → dFz (dLc (dIP ip) (dgP gp) (dPT tp) (dP ep) vs) ρ μ k := fun ρ μ k h => by
  obtain ⟨d, hd, hk⟩ := h
  unfold eLc at hd
  cases h1 : ip ρ μ with
  | none => rw [h1] at hd; cases hd
  | some ds =>
    rw [h1] at hd
    simp only [Option.bind_some] at hd
    split at hd
    · next hl =>
      cases h2 : lcGo gp tp ep (unsetAll ρ vs) μ ds with
      | none => rw [h2] at hd; cases hd
      | some ys =>
        rw [h2] at hd
        cases hd
        exact ⟨ds, h1, lcGo_ok (ok := fun μ' => μ' = μ) (k := fun xs μ1 => k (.lst xs) μ1) rfl h2 (by rw [List.length_nil]; omega) (by rw [List.nil_append]; exact hk)⟩
    · cases hd
theorem psd_setLcV (hc : X.calm = true) (hN : X.N.Nodup) (hi : PIV X A tg iter ip) (ok : blkC X.N X.env.scope scope own = true) (hg : Blk X scope fun Y => PGV Y A tg gp ws) (ht : Blk X scope fun Y => PTsV Y A ifs tp) (he : Blk X scope fun Y => PV Y A elt ep)
    (hsw : swapsWith (.ListComp elt [⟨tg, iter, ifs, 0⟩] scope pos) (some (.Name y py)) spos.line X.env = pure true) (hy : X.N[i]? = some y := by rfl) (hyl : X.env.scope.names.lookup y = some .local := by rfl)
    (hw : ∀ i ∈ ws, i ∈ own.map (·.2) := by decide) (hs : ∀ x, foldedSetIterable iter X.env x = pure x := by intro _; rfl) :
    PSD X A (.Assign [.Name y py] (.ListComp elt [⟨tg, iter, ifs, 0⟩] scope pos) spos) (sAsg (dP (eLc ip gp tp ep (own.map (·.2)))) (dgName i)) :=
  (psd_setLcF hc hN hi ok hg ht he hsw hy hyl hw hs).imp fun D ρ μ h => eLc_fz ρ μ _ h
end
/-- three plain names at once -/
def sPar3 (i j l : Nat) (t : DA) : DS := fun D ρ μ => t ρ μ fun xs μ1 => match xs with
  | [x, y, z] => D.nx (setS (setS (setS ρ i (some x)) j (some y)) l (some z)) μ1
  | _ => False
theorem Reps.three_inv {Hf : Hp} {vs : List V} {x y z : D} (r : Reps K Hf vs [x, y, z]) : ∃ u v w, vs = [u, v, w] ∧ Rep K Hf u x ∧ Rep K Hf v y ∧ Rep K Hf w z := by
  cases r with
  | cons a t =>
    obtain ⟨v, w, rfl, h1, h2⟩ := t.two_inv
    exact ⟨_, v, w, rfl, a, h1, h2⟩
theorem psd_par3 {i j l : Nat} {x y z : Str} {t : DA} {px py pz pt : Pos} {kt k2 pt2} (hc : X.calm = true) (hN : X.N.Nodup) (ha : PAD X A [a, b, c] t) (hi : X.N[i]? = some x := by rfl) (hj : X.N[j]? = some y := by rfl) (hl : X.N[l]? = some z := by rfl)
    (hij : i ≠ j := by decide) (hil : i ≠ l := by decide) (hjl : j ≠ l := by decide) (hx : X.env.scope.names.lookup x = some .local := by rfl) (hy : X.env.scope.names.lookup y = some .local := by rfl) (hz : X.env.scope.names.lookup z = some .local := by rfl)
    (hw : swappedStores [.Tuple [.Name x px, .Name y py, .Name z pz] kt pt] (.Tuple [a, b, c] k2 pt2) X.env = pure (some [x, y, z]) := by rfl)
    (hs : swapsWithSole [.Tuple [.Name x px, .Name y py, .Name z pz] kt pt] (.Tuple [a, b, c] k2 pt2) pos.line X.env = pure false := by rfl) :
    PSD X A (.Assign [.Tuple [.Name x px, .Name y py, .Name z pz] kt pt] (.Tuple [a, b, c] k2 pt2) pos) (sPar3 i j l t) := PS.imp (ps_par3 hc hN hi hj hl hij hil hjl hx hy hz ha hw hs) fun D σ H q => by
  obtain ⟨Fr, Hf, μ, ρ, D', s, sl, hd, ks⟩ := q
  refine ⟨Fr, Hf, μ, ρ, _, s, sl, hd, fun Hf1 μ1 H1 vs xs e1 s1 r1 h1 => ?_⟩
  match xs, h1 with
  | [x, y, z], h1 =>
    obtain ⟨u, v, w, rfl, ru, rv, rw_⟩ := r1.three_inv
    exact ⟨u, v, w, rfl, ks.nx _ _ _ _ _ e1 s1 ((((sl.mono e1).set ru i).set rv j).set rw_ l) h1⟩
/-! ### list(range(..)) -/
theorem rgV_rep {Hf : Hp} (i j : Int) : Reps K Hf (rgV i j) (rgD i (j - i).toNat) := by
  unfold rgV rgD
  generalize List.range (j - i).toNat = l
  induction l with
  | nil => exact .nil
  | cons n r ih => exact .cons .int ih
def gRg (_ : Mu) : List D → Option D
  | [.int j] => if j ≤ 100000 ∧ -100000 ≤ j then some (.lst (rgD 0 j.toNat)) else none
  | [.int i, .int j] => if i ≤ 100000 ∧ -100000 ≤ i ∧ j ≤ 100000 ∧ -100000 ≤ j then some (.lst (rgD i (j - i).toNat)) else none
  | _ => none
theorem pv_listRg {p q q2 : Pos} (hc : X.calm = true) (hg : Gl X "list") (hm : X.mg "list" = none) (hg2 : Gl X "range") (hm2 : X.mg "range" = none) (ha : PV X A a ea)
    (na : starEach [a] X.env = (false, eval a X.env) :: starEach [] X.env := by rfl) (nb : starEach [.Call (.Name "range" q) [a] [] q2] X.env = (false, eval (.Call (.Name "range" q) [a] [] q2) X.env) :: starEach [] X.env := by rfl) :
    PV X A (.Call (.Name "list" p) [.Call (.Name "range" q) [a] [] q2] [] pos) (e1 (fun μ x => gRg μ [x]) ea) := PE.imp (pe_listRg hc hg hm (prg_1 hg2 hm2 ha na) nb) fun σ H Q h => by
  obtain ⟨Fr, Hf, μ, ρ, k, s, sl, ⟨d, hd, hk⟩, kk⟩ := h
  unfold e1 at hd
  cases h1 : ea ρ μ with
  | none => rw [h1] at hd; cases hd
  | some x =>
    rw [h1] at hd
    refine ⟨Fr, Hf, μ, ρ, fun x' μ' => x' = x ∧ μ' = μ, s, sl, ⟨x, h1, rfl, rfl⟩, fun Hf1 μ1 H1 v x' e1 s1 r1 q1 => ?_⟩
    obtain ⟨rfl, rfl⟩ := q1
    cases r1 <;> simp only [Option.bind_some, gRg] at hd <;> try (cases hd; done)
    rename_i j
    split at hd
    · next hc =>
      cases hd
      refine ⟨_, rfl, ⟨by omega, by omega, by omega, by omega, by omega⟩, fun l hl => ?_⟩
      have rr := rgV_rep (K := X.K) (Hf := Hf1) 0 j
      rw [Int.sub_zero] at rr
      exact kk _ _ _ _ _ (e1.trans (s1.sameF hl _)) (s1.newF hl _) (Rep.newL (s1.hr.hf_none hl) rr) hk
    · cases hd
def dRgM (ea : EvE) : DE := fun ρ μ k => ∃ j, ea ρ μ = some (.int j) ∧ (j ≤ 100000 ∧ -100000 ≤ j) ∧ ∀ p, μ p = none → k (.loc p) (updM μ p (.lst (rgD 0 j.toNat)))
theorem pd_listRgM {p q q2 : Pos} (hc : X.calm = true) (hg : Gl X "list") (hm : X.mg "list" = none) (hg2 : Gl X "range") (hm2 : X.mg "range" = none) (ha : PV X A a ea)
    (na : starEach [a] X.env = (false, eval a X.env) :: starEach [] X.env := by rfl) (nb : starEach [.Call (.Name "range" q) [a] [] q2] X.env = (false, eval (.Call (.Name "range" q) [a] [] q2) X.env) :: starEach [] X.env := by rfl) :
    PD X A (.Call (.Name "list" p) [.Call (.Name "range" q) [a] [] q2] [] pos) (dRgM ea) := PE.imp (pe_listRg hc hg hm (prg_1 hg2 hm2 ha na) nb) fun σ H Q h => by
  obtain ⟨Fr, Hf, μ, ρ, k, s, sl, ⟨j, h1, hc, hk⟩, kk⟩ := h
  refine ⟨Fr, Hf, μ, ρ, fun x' μ' => x' = .int j ∧ μ' = μ, s, sl, ⟨_, h1, rfl, rfl⟩, fun Hf1 μ1 H1 v x' e1 s1 r1 q1 => ?_⟩
  obtain ⟨rfl, rfl⟩ := q1
  cases r1
  refine ⟨_, rfl, ⟨by omega, by omega, by omega, by omega, by omega⟩, fun l hl => ?_⟩
  have rr := rgV_rep (K := X.K) (Hf := Hf1) 0 j
  rw [Int.sub_zero] at rr
  exact kk _ _ _ _ _ e1 (s1.newM hl (show MOk X.K Hf1 (.lst (rgV 0 j)) (.lst (rgD 0 j.toNat)) from rr)) .loc (hk l (s1.hr.mu_none hl))
/-! ### lists that are to change: products, sums, slices -/
/-- [x] * n -/
def fMulM : DR := fun x y μ k => match y with
  | .int n => ∃ xs, itemsM μ x = some xs ∧ ((0 ≤ n ∧ n ≤ 100000) ∧ xs.length * n.toNat ≤ 100000) ∧ ∀ p, μ p = none → k (.loc p) (updM μ p (.lst (List.replicate n.toNat xs).flatten))
  | _ => False
theorem sd_mulM : SdR K A rRep fMulM := fun Fr Hf μ H v w x y k Q s rv rw_ hd kk => by
  cases rw_ <;> simp only [fMulM] at hd
  obtain ⟨xs, hx, hc, hk⟩ := hd
  obtain ⟨a, vs, rfl, ha, rs⟩ := s.hr.itemsM rv hx
  refine ⟨a, _, vs, rfl, rfl, ha, by omega, by omega, ?_, fun p hp => ?_⟩
  · rw [rs.length]
    exact le_size hc.2
  · exact kk _ _ _ _ _ (Same.refl _) (s.newM hp (show MOk K Hf (.lst _) (.lst _) from rs.replicate _)) .loc (hk p (s.hr.mu_none hp))
def fAddM : DR := fun x y μ k => ∃ xs ys, itemsM μ x = some xs ∧ itemsM μ y = some ys ∧ xs.length + ys.length ≤ 100000 ∧ ∀ p, μ p = none → k (.loc p) (updM μ p (.lst (xs ++ ys)))
theorem sd_addM : SdR K A rCat fAddM := fun Fr Hf μ H v w x y k Q s rv rw_ hd kk => by
  obtain ⟨xs, ys, hx, hy, hc, hk⟩ := hd
  obtain ⟨a, vs, rfl, ha, rs⟩ := s.hr.itemsM rv hx
  obtain ⟨b, us, rfl, hb, rs2⟩ := s.hr.itemsM rw_ hy
  refine ⟨a, b, vs, us, rfl, rfl, ha, hb, ?_, fun p hp => ?_⟩
  · rw [rs.length, rs2.length]
    exact le_size hc
  · exact kk _ _ _ _ _ (Same.refl _) (s.newM hp (show MOk K Hf (.lst _) (.lst _) from rs.append rs2)) .loc (hk p (s.hr.mu_none hp))
end
/-! ### sorted, of rows of ints -/
def encR (b : V × List Int) : PyData := .tuple (b.2.map .int)
def leR (r s : List Int) : Bool := PySem.W.dataLe false (fun x : List Int => PyData.tuple (x.map .int)) r s
section
variable {X : Cx} {A : Amb} {K : PySem.W.Frag}
def rSortedT (K : PySem.W.Frag) : List V → Hp → VK → Prop := fun vs H Q => ∃ (a : Addr) (bs : List (V × List Int)), vs = [V.ref a] ∧ SqL K H a (bs.map (·.1)) ∧ (∀ b ∈ bs, b.2 ≠ [] ∧ Dp K H b.1 (encR b)) ∧ bs.length ≤ 100000 ∧
  ∀ p, H p = none → Q (.ref p) (upd H p (.lst ((bs.mergeSort (PySem.W.dataLe false encR)).map (·.1))))
theorem each_of_vals : ∀ {bs : List (V × List Int)} {us : List Value}, Vals (bs.map (·.1)) us → PySem.W.EachIs (fun u b => RelV b.1 u) us bs
  | [], _, h => by
    cases h
    exact .nil
  | b :: bs, _, h => by
    cases h with
    | cons r t => exact .cons r (each_of_vals t)
theorem vals_of_each : ∀ {bs : List (V × List Int)} {us : List Value}, PySem.W.EachIs (fun u b => RelV b.1 u) us bs → Vals (bs.map (·.1)) us
  | [], _, h => by
    cases h
    exact .nil
  | b :: bs, _, h => by
    cases h with
    | cons r t => exact .cons r (vals_of_each t)
theorem each_reads {pins : List (Addr × Obj)} {σ : Sg} {H : Hp} {s : Shared} (I : Inv X pins σ H s) : ∀ {bs : List (V × List Int)} {us : List Value}, Vals (bs.map (·.1)) us → (∀ b ∈ bs, Dp X.K H b.1 (encR b)) → PySem.W.EachIs (fun u b => ∃ as, Reads s.heap u (encR b) as) us bs
  | [], _, h, _ => by
    cases h
    exact .nil
  | b :: bs, _, h, q => by
    cases h with
    | cons r t => exact .cons (Dp.reads I _ _ _ (q b List.mem_cons_self) r) (each_reads I t fun c hc => q c (List.mem_cons_of_mem _ hc))
theorem cr_sortedT (hu : X.A.units + 65 < cLine) : CallR X (.builtin "sorted") (rSortedT X.K) := by
  intro pins s σ H vs us Q I r h
  obtain ⟨a, bs, rfl, hs, hb, hz, q⟩ := h
  obtain ⟨its, rv, hl, _⟩ := I.list hs
  rw [Vals.ref1 r]
  refine PySem.W.sorted_data (enc := encR) hl.isList (each_of_vals rv) (each_reads I rv fun b h => (hb b h).2) ?_ (.inl ?_) (le_size hz) ?_ fun out hlen he => ?_
  · exact PySem.W.AllAlike.of fun b b' => by
      show PySem.W.alikeAll _ _ = true
      exact PySem.W.alike_ints _ _
  · intro d hd
    obtain ⟨b, hm, rfl⟩ := List.mem_map.mp hd
    have hne := (hb b hm).1
    unfold encR
    cases hr : b.2 with
    | nil => exact absurd hr hne
    | cons x r => exact ⟨_, _, rfl⟩
  · intro b hm
    have h1 : (encR b).depth ≤ 1 := by
      unfold encR
      simp only [PyData.depth]
      rw [PySem.W.depth_ints]
      decide
    omega
  · obtain ⟨ep, he'⟩ := PyProof.Rows.sortedAll_at s.heap its out.toArray
    have rv2 := vals_of_each he
    have hlen2 : ((bs.mergeSort (PySem.W.dataLe false encR)).map (·.1)).length ≤ sizeLine := by
      rw [List.length_map, List.length_mergeSort]
      exact le_size hz
    exact ⟨.ref _, upd H (s.heap.objs.size + 1) (.lst _), I.laid (t' := s.toks) (fun _ _ => PyProof.Rows.sortedAll_old) (Nat.le_succ _) ⟨hlen2, out, ep, rv2, he'⟩, rfl, q _ (I.hok.fresh (Nat.le_succ _))⟩
def rowsOf : List D → Option (List (List Int))
  | [] => some []
  | .tup xs :: r => match intsOf xs, rowsOf r with
    | some (n :: ns), some rs => some ((n :: ns) :: rs)
    | _, _ => none
  | _ => none
def rowD (r : List Int) : D := .tup (r.map .int)
theorem rowsOf_eq : ∀ {xs : List D} {rs : List (List Int)}, rowsOf xs = some rs → xs = rs.map rowD ∧ ∀ r ∈ rs, r ≠ []
  | [], _, h => by
    cases h
    exact ⟨rfl, fun _ h => by simp at h⟩
  | x :: r, rs, h => by
    cases x <;> simp only [rowsOf] at h <;> try (cases h; done)
    case tup ys =>
      split at h
      · next n ns rs' h1 h2 =>
        cases h
        obtain ⟨e1, e2⟩ := rowsOf_eq h2
        rw [e1, intsOf_eq h1]
        refine ⟨rfl, fun r hr => ?_⟩
        rcases List.mem_cons.mp hr with e | hm
        · rw [e]
          exact fun z => nomatch z
        · exact e2 r hm
      · cases h
theorem rowsOf_map : ∀ {rs : List (List Int)}, (∀ r ∈ rs, r ≠ []) → rowsOf (rs.map rowD) = some rs
  | [], _ => rfl
  | [] :: _, h => absurd rfl (h [] List.mem_cons_self)
  | (n :: ns) :: rs, h => by
    show (match intsOf ((n :: ns).map .int), rowsOf (rs.map rowD) with
      | some (n :: ns), some rs => some ((n :: ns) :: rs)
      | _, _ => none) = _
    rw [intsOf_map, rowsOf_map fun r hr => h r (List.mem_cons_of_mem _ hr)]
def gSorted (μ : Mu) : List D → Option D
  | [x] => match itemsL μ x with
    | some xs => match rowsOf xs with
      | some rs => if rs.length ≤ 100000 then some (.lst ((rs.mergeSort leR).map rowD)) else none
      | none => none
    | none => none
  | _ => none
theorem row_dp {Hf H : Hp} (e : Same Hf H) {v : V} {r : List Int} (h : Rep K Hf v (rowD r)) : Dp K H v (.tuple (r.map .int)) := by
  refine pyF_dp e h ?_
  unfold rowD
  have : ∀ ns : List Int, pyFs (ns.map .int) = some (ns.map .int) := fun ns => by
    induction ns with
    | nil => rfl
    | cons n r ih =>
      simp only [List.map_cons, pyFs, pyF, ih]
  simp only [pyF, this]
theorem rows_zip {Hf : Hp} : ∀ {vs : List V} {rs : List (List Int)}, Reps K Hf vs (rs.map rowD) → ∃ bs : List (V × List Int), bs.map (·.1) = vs ∧ bs.map (·.2) = rs ∧ ∀ b ∈ bs, Rep K Hf b.1 (rowD b.2)
  | _, [], h => by
    cases h
    exact ⟨[], rfl, rfl, fun _ h => by simp at h⟩
  | _, r :: rs, h => by
    cases h with
    | cons a t =>
      obtain ⟨bs, h1, h2, h3⟩ := rows_zip t
      refine ⟨(_, r) :: bs, by rw [List.map_cons, h1], by rw [List.map_cons, h2], fun b hb => ?_⟩
      rcases List.mem_cons.mp hb with e | hm
      · subst e
        exact a
      · exact h3 b hm
theorem reps_rows {Hf : Hp} : ∀ {bs : List (V × List Int)}, (∀ b ∈ bs, Rep K Hf b.1 (rowD b.2)) → Reps K Hf (bs.map (·.1)) ((bs.map (·.2)).map rowD)
  | [], _ => .nil
  | b :: bs, h => .cons (h b List.mem_cons_self) (reps_rows fun c hc => h c (List.mem_cons_of_mem _ hc))
theorem sd_sorted : SdC K A (rSortedT K) (pN gSorted) := sdc_of fun Fr Hf μ H vs xs d Q s rs hg q qn => by
  match xs, hg with
  | [x], hg =>
    obtain ⟨v, rfl, r⟩ := rs.one_inv
    simp only [gSorted] at hg
    split at hg
    · next xs hx =>
      split at hg
      · next rows hr =>
        split at hg
        · next hl =>
          cases hg
          obtain ⟨a, us, rfl, hq, rs⟩ := s.itemsL r hx
          obtain ⟨e1, e2⟩ := rowsOf_eq hr
          rw [e1] at rs
          obtain ⟨bs, h1, h2, h3⟩ := rows_zip rs
          have hmem : ∀ b ∈ bs, b.2 ∈ rows := fun b hb => by
            rw [← h2]
            exact List.mem_map_of_mem hb
          refine ⟨a, bs, rfl, by rw [h1]; exact hq, fun b hb => ⟨e2 _ (hmem b hb), row_dp s.ex (h3 b hb)⟩, ?_, fun p hp => qn p _ hp (Rep.newL (s.hf_none hp) ?_)⟩
          · have : bs.length = rows.length := by
              rw [← h2, List.length_map]
            omega
          · have hm : (bs.mergeSort (PySem.W.dataLe false encR)).map (·.2) = rows.mergeSort leR := by
              rw [← h2]
              exact List.map_mergeSort fun a _ b _ => rfl
            rw [← hm]
            exact reps_rows fun b hb => h3 b ((List.mergeSort_perm bs _).mem_iff.mp hb)
        · cases hg
      · cases hg
    · cases hg
end
end DL
end

section
set_option maxRecDepth 100000
set_option maxHeartbeats 2000000
/-! DL11: sums of bools; starred targets; texts. -/
namespace DL
open PySem PySem.Spec PyProof.Rows L2

def b01 (bs : List Bool) (j : Nat) : Int := if bs.getD j false = true then 1 else 0
theorem b01_le (bs : List Bool) (j : Nat) : 0 ≤ b01 bs j ∧ b01 bs j ≤ 1 := by
  unfold b01
  split <;> omega
theorem pre01 (bs : List Bool) : ∀ j, 0 ≤ preSum (b01 bs) j ∧ preSum (b01 bs) j ≤ (j : Int)
  | 0 => by
    unfold preSum
    omega
  | j + 1 => by
    have h1 := pre01 bs j
    have h2 := b01_le bs j
    unfold preSum
    omega
section
variable {prog : Program} {w : World} {A : Around} {E : Value → Shared → Prop} {R : Result → Shared → Prop}
/-- from the i-th bool on -/
theorem sumb_loop (hh : A.in1.handled = none) (bs : List Bool) (hz : bs.length ≤ 100000) (I l S : Addr) (hI : l ≠ I) (hS1 : S ≠ I) (hS2 : S ≠ l) (its : Array Value) (hits : its = (bs.map Value.bool).toArray) :
    ∀ (k i : Nat) (s : Shared) (tA : Tok) (c : Nat), bs.length - i = k → i ≤ bs.length → s.heap.IsListIter I l i → s.heap.IsList l its → s.heap.get? S = some { cls := .type "list", dict := none, data := .seq #[.int (preSum (b01 bs) i) tA] c, slots := #[] } →
    (∀ h' tk t', (∀ b o, b ≠ I → b ≠ S → s.heap.get? b = some o → h'.get? b = some o) → R (.ok (.ret (.int (preSum (b01 bs) bs.length) t'))) { s with heap := h', toks := tk }) →
    codeAny (model prog w) A (.builtin "sum.loop" ⟨[.ref I, .ref S, rawInt 0, rawInt 0], []⟩) R s := by
  have hsz : its.size = bs.length := by
    rw [hits, List.size_toArray, List.length_map]
  have W := Walks.list (prog := prog) (w := w) (A := A.in1) hh I l hI its
  intro k
  induction k with
  | zero =>
    intro i s tA c hk hi hst hl hS hR
    have hin : i = its.size := by omega
    refine codeAny_builtin F.entry_sum_loop ?_
    rw [Around.under_plainId F.plain_sum_loop _]
    show wpAny _ A.in1 (seqItems? (.ref S) >>= _) _ _ s
    refine wpAny_bind (wpAny_seqItems hS rfl ?_)
    show wpAny _ A.in1 (tryCatch (pyNext (.ref I)) _ >>= _) _ _ s
    refine wpAny_bind (wpAny_tryCatch (W.done s _ _ (hin ▸ ⟨hst, hl⟩) fun h' tk hk' => ?_))
    refine wpAny_pure ?_
    have hb : i = bs.length := by omega
    subst hb
    exact hR h' tk tA fun b o hb1 _ e => hk' b o (by simpa using hb1) e
  | succ k ih =>
    intro i s tA c hk hi hst hl hS hR
    have hlt : i < its.size := by omega
    refine codeAny_builtin F.entry_sum_loop ?_
    rw [Around.under_plainId F.plain_sum_loop _]
    show wpAny _ A.in1 (seqItems? (.ref S) >>= _) _ _ s
    refine wpAny_bind (wpAny_seqItems hS rfl ?_)
    show wpAny _ A.in1 (tryCatch (pyNext (.ref I)) _ >>= _) _ _ s
    refine wpAny_bind (wpAny_tryCatch (W.item i s _ _ hlt ⟨hst, hl⟩ fun v h' tk hP hst' hk' => ?_))
    have hib : i < bs.length := by omega
    have hv : v = Value.bool (bs.getD i false) := by
      have hP' : its[i]? = some v := hP
      rw [hits] at hP'
      rw [List.getElem?_toArray, List.getElem?_map, List.getElem?_eq_getElem hib] at hP'
      cases hP'
      rw [List.getD_eq_getElem?_getD, List.getElem?_eq_getElem hib]
      rfl
    subst hv
    have hS' := hk' S _ (by simpa using hS1) hS
    have h1 := pre01 bs i
    have h2 := b01_le bs i
    cases hb : bs.getD i false with
    | false =>
      have hx : b01 bs i = 0 := by
        unfold b01
        rw [hb]
        rfl
      have hc : ((decide (-(2 ^ 63) ≤ (0 : Int)) && decide ((0 : Int) < 2 ^ 63)) && (decide (-(2 ^ 63) ≤ preSum (b01 bs) i + 0) && decide (preSum (b01 bs) i + 0 < 2 ^ 63))) = true := by
        simp only [Bool.and_eq_true, decide_eq_true_eq]
        refine ⟨⟨?_, ?_⟩, ?_, ?_⟩ <;> omega
      have hp : preSum (b01 bs) (i + 1) = preSum (b01 bs) i + 0 := by
        show preSum (b01 bs) i + b01 bs i = _
        rw [hx]
      show wpAny _ A.in1 (if (_ : Bool) = true then (mkInt (preSum (b01 bs) i + 0) >>= _) else _) _ _ _
      split
      · rename_i hpos
        exact nomatch hpos
      · split
        · refine wpAny_bind (wpAny_mkInt ?_)
          show wpAny _ A.in1 (updateSeq S (fun _ => #[.int (preSum (b01 bs) i + 0) tk]) >>= _) _ _ _
          refine wpAny_bind (wpAny_updateSeq hS' rfl (wpAny_pure ⟨plainId_quiet F.plain_sum_loop _, ?_⟩))
          have same : ∀ b, b ≠ S → ∀ o, h'.get? b = some o → _ := fun b hb o e => (Heap.get?_update_other h' (Obj.mapSeq fun _ => #[Value.int (preSum (b01 bs) i + 0) tk]) (Ne.symm hb)).trans e
          refine ih (i + 1) _ tk c (by omega) (by omega) (hst'.1.at fun o e => same I (Ne.symm hS1) o e) (hst'.2.at fun o e => same l (Ne.symm hS2) o e) (by rw [hp]; exact Heap.get?_update_self _ hS' rfl) fun h'' tk'' t'' hk'' => ?_
          exact hR h'' tk'' t'' fun b o hb1 hb2 e => hk'' b o hb1 hb2 (same b hb2 o (hk' b o (by simpa using hb1) e))
        · rename_i hneg
          exact absurd hc hneg
    | true =>
      have hx : b01 bs i = 1 := by
        unfold b01
        rw [hb]
        rfl
      have hc : ((decide (-(2 ^ 63) ≤ (1 : Int)) && decide ((1 : Int) < 2 ^ 63)) && (decide (-(2 ^ 63) ≤ preSum (b01 bs) i + 1) && decide (preSum (b01 bs) i + 1 < 2 ^ 63))) = true := by
        simp only [Bool.and_eq_true, decide_eq_true_eq]
        refine ⟨⟨?_, ?_⟩, ?_, ?_⟩ <;> omega
      have hp : preSum (b01 bs) (i + 1) = preSum (b01 bs) i + 1 := by
        show preSum (b01 bs) i + b01 bs i = _
        rw [hx]
      show wpAny _ A.in1 (if (_ : Bool) = true then (mkInt (preSum (b01 bs) i + 1) >>= _) else _) _ _ _
      split
      · split
        · refine wpAny_bind (wpAny_mkInt ?_)
          show wpAny _ A.in1 (updateSeq S (fun _ => #[.int (preSum (b01 bs) i + 1) tk]) >>= _) _ _ _
          refine wpAny_bind (wpAny_updateSeq hS' rfl (wpAny_pure ⟨plainId_quiet F.plain_sum_loop _, ?_⟩))
          have same : ∀ b, b ≠ S → ∀ o, h'.get? b = some o → _ := fun b hb o e => (Heap.get?_update_other h' (Obj.mapSeq fun _ => #[Value.int (preSum (b01 bs) i + 1) tk]) (Ne.symm hb)).trans e
          refine ih (i + 1) _ tk c (by omega) (by omega) (hst'.1.at fun o e => same I (Ne.symm hS1) o e) (hst'.2.at fun o e => same l (Ne.symm hS2) o e) (by rw [hp]; exact Heap.get?_update_self _ hS' rfl) fun h'' tk'' t'' hk'' => ?_
          exact hR h'' tk'' t'' fun b o hb1 hb2 e => hk'' b o hb1 hb2 (same b hb2 o (hk' b o (by simpa using hb1) e))
        · rename_i hneg
          exact absurd hc hneg
      · rename_i hneg
        exact absurd rfl hneg
theorem sumb_raw {s : Shared} {l : Addr} {bs : List Bool} {Q : Value → Shared → Prop} (hh : A.handled = none) (hz : bs.length ≤ 100000) (hl : s.heap.IsList l (bs.map Value.bool).toArray)
    (h : ∀ h' tk t', (∀ b o, s.heap.get? b = some o → h'.get? b = some o) → Q (.int (preSum (b01 bs) bs.length) t') { s with heap := h', toks := tk }) : wpAny (model prog w) A (call (.builtin "sum") [.ref l]) Q E s := by
  refine call_function_tree F.kind_sum F.plain_sum F.entry_sum (F.args_sum1 _) ?_
  unfold Builtin.«sum»
  simp only [List.length_cons, List.length_nil]
  rw [if_neg (by decide)]
  refine wpAny_bind (wpAny_of_eq (show Builtin.Builtins.bindParams "sum" ["start"] 0 { } = pure [none] from rfl) ?_)
  refine wpAny_bind (wpAny_pyIter_list hl ?_)
  refine wpAny_bind (wpAny_mkInt (wpAny_bind (wpAny_pure ?_)))
  simp only [List.forIn_cons, List.forIn_nil]
  refine wpAny_bind (wpAny_bind (wpAny_bind (wpAny_isInstance (T := "int") (b := false) (typeIs_int _ _ _) F.sub_int_str ?_)))
  simp only [Bool.false_eq_true, if_false]
  refine wpAny_pure (wpAny_bind (wpAny_bind (wpAny_isInstance (T := "int") (b := false) (typeIs_int _ _ _) F.sub_int_bytes ?_)))
  simp only [Bool.false_eq_true, if_false]
  refine wpAny_pure (wpAny_bind (wpAny_bind (wpAny_isInstance (T := "int") (b := false) (typeIs_int _ _ _) F.sub_int_bytearray ?_)))
  simp only [Bool.false_eq_true, if_false]
  refine wpAny_pure (wpAny_pure (wpAny_bind (wpAny_newObj_type ?_)))
  have hll : l < s.heap.objs.size := by
    obtain ⟨o, ho, _⟩ := hl
    exact Heap.lt_size ho
  have zsz : (s.heap.push { cls := .type "list_iterator", data := .fields #[.ref l, .int 0 0] }).objs.size = s.heap.objs.size + 1 := Heap.size_push ..
  have n1 : (s.heap.push { cls := .type "list_iterator", data := .fields #[.ref l, .int 0 0] }).objs.size ≠ s.heap.objs.size := by
    rw [zsz]
    exact Nat.succ_ne_self _
  have n2 : (s.heap.push { cls := .type "list_iterator", data := .fields #[.ref l, .int 0 0] }).objs.size ≠ l := by
    rw [zsz]
    exact Nat.ne_of_gt (Nat.lt_succ_of_lt hll)
  refine wpAny_pure ⟨plainId_quiet F.plain_sum_loop _, sumb_loop (show A.in1.handled = none from hh) bs hz s.heap.objs.size l _ (Nat.ne_of_lt hll) n1 n2 _ rfl bs.length 0 _ _ 0 rfl (Nat.zero_le _)
    ⟨_, Heap.get?_push_of_some _ (Heap.get?_push_size _ rfl), rfl, rfl⟩ ((hl.push _).push _) (Heap.get?_push_size _ rfl) fun h' tk t' hk => ?_⟩
  refine h h' tk t' fun b o e => hk b o (Nat.ne_of_lt (Heap.lt_size e)) ?_ (Heap.get?_push_of_some _ (Heap.get?_push_of_some _ e))
  rw [zsz]
  exact Nat.ne_of_lt (Nat.lt_succ_of_lt (Heap.lt_size e))
end
end DL
end

section
set_option maxRecDepth 100000
set_option maxHeartbeats 2000000
/-! DL12: sums, starred targets, texts. -/
namespace DL
open PySem PySem.Spec PyProof.Rows L2

/-! ### sum of bools -/
def cntT (bs : List Bool) : Int := (bs.map fun b => if b = true then (1 : Int) else 0).sum
theorem pre01_take (bs : List Bool) : ∀ n, n ≤ bs.length → preSum (b01 bs) n = ((bs.take n).map fun b => if b = true then (1 : Int) else 0).sum
  | 0, _ => by simp [preSum]
  | n + 1, h => by
    have hn : n < bs.length := h
    rw [preSum, pre01_take bs n (Nat.le_of_lt hn), List.take_succ_eq_append_getElem hn, List.map_append, List.sum_append]
    unfold b01
    rw [List.getD_eq_getElem?_getD, List.getElem?_eq_getElem hn]
    simp
section
variable {X : Cx} {A : Amb} {K : PySem.W.Frag} {e a b c o : Expr} {pos : Pos} {es : List Expr} {ev ea eb : EvE} {ts : EvA}
def rSumB (K : PySem.W.Frag) : List V → Hp → VK → Prop := fun vs H Q => ∃ (a : Addr) (bs : List Bool), vs = [V.ref a] ∧ SqL K H a (bs.map V.bl) ∧ bs.length ≤ 100000 ∧ Q (.int (cntT bs)) H
theorem cr_sumB (hc : X.calm = true) : CallR X (.builtin "sum") (rSumB X.K) := by
  intro pins s σ H vs us Q I r h
  obtain ⟨a, bs, rfl, hs, hz, q⟩ := h
  obtain ⟨its, rv, hl, _⟩ := I.list hs
  rw [Vals.ref1 r]
  obtain rfl := Vals.bls rv
  refine sumb_raw (I.ok.hd hc) hz hl.isList fun h' tk t' hk => ?_
  have e1 : preSum (b01 bs) bs.length = cntT bs := by
    rw [pre01_take bs _ (Nat.le_refl _), List.take_length]
    rfl
  rw [e1]
  exact ⟨.int (cntT bs), H, I.kept hk, ⟨_, rfl⟩, q⟩
/-- sum of ints, of bools -/
def gSumA (μ : Mu) : List D → Option D
  | [x] => match itemsL μ x with
    | some xs => match intsOf xs with
      | some bs => some (.int bs.sum)
      | none => match boolsOf xs with
        | some bs => if bs.length ≤ 100000 then some (.int (cntT bs)) else none
        | none => none
    | none => none
  | _ => none
def rSumA (K : PySem.W.Frag) : List V → Hp → VK → Prop := fun xs H Q => rSum K xs H Q ∨ rSumB K xs H Q
theorem cr_sumA (hc : X.calm = true) : CallR X (.builtin "sum") (rSumA X.K) := (cr_sum hc).or (cr_sumB hc)
theorem sd_sumA : SdC K A (rSumA K) (pN gSumA) := sdc_of fun Fr Hf μ H vs xs d Q s rs hg q _ => by
  match xs, hg with
  | [x], hg =>
    obtain ⟨v, rfl, r⟩ := rs.one_inv
    simp only [gSumA] at hg
    split at hg
    · next xs hx =>
      obtain ⟨a, us, rfl, hq, rs⟩ := s.itemsL r hx
      split at hg
      · next bs hb =>
        cases hg
        rw [intsOf_eq hb] at rs
        rw [rs.ints_inv] at hq
        exact .inl ⟨a, bs, rfl, hq, q _ .int⟩
      · split at hg
        · next bs hb =>
          split at hg
          · next hz =>
            cases hg
            rw [boolsOf_eq hb] at rs
            rw [rs.bls_inv] at hq
            exact .inr ⟨a, bs, rfl, hq, hz, q _ .int⟩
          · cases hg
        · cases hg
    · cases hg
/-! ### a, *b = a list -/
theorem pgs_star {p : Pos} {t : Expr} {g : TGs} (h : PGs X (t :: es) g) (hs : (assignEach (.Starred t p :: es) X.env).map (·.2) = (assignEach (t :: es) X.env).map (·.2)) : PGs X (.Starred t p :: es) g :=
  ⟨fun pins s σ H vs us Q I r q => by rw [hs]; exact h.run pins s σ H vs us Q I r q⟩
/-- n targets, the i-th one starred -/
def gStar (K : PySem.W.Frag) (n i : Nat) (t : TGs) : TG := fun v σ H Q => ∃ a xs, v = .ref a ∧ SqL K H a xs ∧ i < n ∧ n ≤ xs.length + 1 ∧ xs.length ≤ 16000 ∧
  ∀ p, H p = none → t (xs.take i ++ [.ref p] ++ (xs.drop i).drop (xs.length + 1 - n)) σ (upd H p (.lst ((xs.drop i).take (xs.length + 1 - n)))) Q
theorem pg_star {k n i : Nat} {t : TGs} (hc : X.calm = true) (h : PGs X es t) (hn : (assignEach es X.env).length = n) (hst : (assignEach es X.env).findIdx? (·.1) = some i) : PG X (.Tuple es k pos) (gStar X.K n i t) := by
  refine ⟨fun pins s σ H v u Q I r hw => ?_⟩
  obtain ⟨a, xs, rfl, hq, hi, hle, hz, q⟩ := hw
  obtain rfl : u = Value.ref a := r
  obtain ⟨its, rv, pl, _⟩ := I.list hq
  have hln := rv.length
  have hl : s.heap.IsList a its.toArray := pl.isList
  have hlt : a < s.heap.objs.size := by
    obtain ⟨o, ho, _⟩ := hl
    exact Heap.lt_size ho
  have hne : a ≠ s.heap.objs.size := Nat.ne_of_lt hlt
  rw [assign_Tuple]
  refine wpAny_bind (wpAny_standAt ?_)
  unfold unpack
  rw [hn, hst]
  refine wpAny_bind (wpAny_holding ?_)
  unfold unpackItems notIterableAtAll
  refine wpAny_bind (wpAny_bind (wpAny_specialOf hl.typeIs PySem.F.slot_list_iter.lookup (wpAny_pure ?_)))
  simp only [Bool.false_eq_true, if_false]
  refine wpAny_bind (wpAny_holding (wpAny_pyIter_list hl ?_))
  have hsz : its.toArray.size = xs.length := by rw [List.size_toArray, hln]
  refine wpAny_bind (wpAny_holding (PySem.W.kun_draw hne i 0 _ _ ⟨_, Heap.get?_push_size _ rfl, rfl, rfl⟩ (hl.push _) (by omega) fun h1 it1 sb1 => ?_))
  have l1 : h1.IsList a its.toArray := (hl.push _).extBut sb1.extBut hne
  rw [Nat.zero_add] at it1
  obtain ⟨oi, hoi, _⟩ := id it1
  obtain ⟨ol, hol, _⟩ := id l1
  rw [List.drop_zero]
  have hfl : (its.toArray.toList.take i).length = i := by
    rw [List.length_take, Array.length_toList]
    omega
  rw [if_neg (by rw [hfl]; exact Nat.lt_irrefl _)]
  have W := Walks.list (prog := X.prog) (w := X.w) (A := X.A.in1) (show X.A.in1.handled = none from I.ok.hd hc) s.heap.objs.size a hne its.toArray
  refine wpAny_bind (wpAny_holding (PySem.W.kun_collect (s := { s with heap := h1 }) (T := "list_iterator") (.inr (.inr (.inl rfl))) W (fun j u st => st.1.typeIs) (k := i) (by omega) ⟨it1, l1⟩ (Heap.lt_size hoi) (Heap.lt_size hol) (fun h2 tk hk => ?_) (by rw [hsz]; exact Nat.le_trans hz (by decide))))
  have hrl : (its.toArray.toList.drop i).length = xs.length - i := by
    rw [List.length_drop, Array.length_toList, hsz]
  have hmid : (its.toArray.toList.drop i).length - (n - 1 - i) = xs.length + 1 - n := by
    rw [hrl]
    omega
  show wpAny _ _ (if (its.toArray.toList.drop i).length < n - 1 - i then _ else _) _ _ _
  rw [if_neg (by rw [hrl]; omega)]
  show wpAny _ _ (newList ((its.toArray.toList.drop i).take ((its.toArray.toList.drop i).length - (n - 1 - i))) >>= fun d => pure (its.toArray.toList.take i ++ [d] ++ (its.toArray.toList.drop i).drop ((its.toArray.toList.drop i).length - (n - 1 - i)))) _ _ _
  rw [hmid]
  have kept : ∀ b o, s.heap.get? b = some o → h2.get? b = some o := fun b o e => hk b o (Nat.ne_of_lt (Heap.lt_size e)) (sb1.extBut b o (Nat.ne_of_lt (Heap.lt_size e)) (Heap.get?_push_of_some _ e))
  have I2 : Inv X pins σ H { s with heap := h2, toks := tk } := I.kept kept
  have rm : Vals ((xs.drop i).take (xs.length + 1 - n)) ((its.drop i).take (xs.length + 1 - n)) := (rv.drop i).take _
  have hml : ((xs.drop i).take (xs.length + 1 - n)).length ≤ sizeLine := by
    rw [List.length_take, List.length_drop]
    exact Nat.le_trans (show min _ _ ≤ 16000 by omega) (by decide)
  refine wpAny_bind (wpAny_newList (wpAny_pure ?_) (by rw [← rm.length]; exact hml))
  have I3 := I2.lnew (t' := tk) rm hml
  have hp := I2.fresh
  have ra : Vals (xs.take i ++ [V.ref h2.objs.size] ++ (xs.drop i).drop (xs.length + 1 - n)) (its.take i ++ [Value.ref h2.objs.size] ++ (its.drop i).drop (xs.length + 1 - n)) :=
    ((rv.take i).append (.cons (show RelV (V.ref h2.objs.size) (Value.ref h2.objs.size) from rfl) .nil)).append ((rv.drop i).drop _)
  exact h.run pins _ σ _ _ _ Q I3 ra (q _ hp)
/-- the values for the targets; the rest in a list that stands still -/
def dgStar (n i : Nat) (gs : DGs) : DG := fun x ρ μ k => ∃ xs, itemsL μ x = some xs ∧ (i < n ∧ n ≤ xs.length + 1 ∧ xs.length ≤ 16000) ∧ gs (xs.take i ++ [.lst ((xs.drop i).take (xs.length + 1 - n))] ++ (xs.drop i).drop (xs.length + 1 - n)) ρ μ k
theorem pgd_star {gs : DGs} {ws : List Nat} {k n i : Nat} (hc : X.calm = true) (h : PGsD X A es gs ws) (hn : (assignEach es X.env).length = n := by rfl) (hst : (assignEach es X.env).findIdx? (·.1) = some i := by rfl) : PGD X A (.Tuple es k pos) (dgStar n i gs) ws :=
  PG.imp (pg_star hc h hn hst) fun v σ H Q q => by
    obtain ⟨Fr, Hf, μ, ρ, x, k, s, sl, r, ⟨xs, hx, ⟨h1, h2, h3⟩, hd⟩, kk⟩ := q
    obtain ⟨a, vs, rfl, ha, rs⟩ := s.hr.itemsL r hx
    refine ⟨a, vs, rfl, ha, h1, by rw [rs.length]; exact h2, by rw [rs.length]; exact h3, fun p hp => ?_⟩
    have e1 := s.sameF hp (.lst ((vs.drop i).take (vs.length + 1 - n)))
    rw [rs.length] at e1 ⊢
    refine ⟨Fr, _, μ, ρ, _, k, s.newF hp _, sl.mono e1, ?_, hd, fun Hf' μ' H' σ' ρ' e2 => kk _ _ _ _ _ (e1.trans e2)⟩
    exact (((rs.mono e1).take i).append (.one (.lst upd_same (((rs.drop i).take _).mono e1)))).append (((rs.mono e1).drop i).drop _)
theorem pgsd_star {p : Pos} {t : Expr} {g : DGs} {ws : List Nat} (h : PGsD X A (t :: es) g ws) (hs : (assignEach (.Starred t p :: es) X.env).map (·.2) = (assignEach (t :: es) X.env).map (·.2) := by rfl) : PGsD X A (.Starred t p :: es) g ws := pgs_star h hs
/-! ### texts -/
def gSplit (_ : Mu) (x y : D) : Option D := match x, y with
  | .str a, .str b => if b.length ≠ 0 ∧ a.length ≤ 1000000 then some (.lst ((Txt.split a b).map .str)) else none
  | _, _ => none
theorem pv_split {apos : Pos} (ho : PV X A o ea) (he : PV X A e eb) (hs : starEach [e] X.env = [(false, eval e X.env)] := by rfl) (hbase : attributeBase o "split" X.env (eval o X.env) = eval o X.env := by rfl) (hline : (apos.endLine == pos.line) = true := by rfl) :
    PV X A (.Call (.Attribute o "split" apos) [e] [] pos) (e2 gSplit ea eb) := PE.imp (pe_split ho he hs hbase hline) fun σ H Q q => by
  obtain ⟨Fr, Hf, μ, ρ, k, s, sl, ⟨d, hd, hk⟩, kk⟩ := q
  unfold e2 at hd
  cases h1 : ea ρ μ with
  | none => rw [h1] at hd; cases hd
  | some x =>
    cases h2 : eb ρ μ with
    | none => rw [h1, h2] at hd; cases hd
    | some y =>
      rw [h1, h2] at hd
      simp only [Option.bind_some] at hd
      refine ⟨Fr, Hf, μ, ρ, fun x' μ' => x' = x ∧ μ' = μ, s, sl, ⟨x, h1, rfl, rfl⟩, fun Hf1 μ1 H1 v x' e1 s1 r1 q1 => ?_⟩
      obtain ⟨rfl, rfl⟩ := q1
      cases r1 <;> simp only [gSplit] at hd <;> try (cases hd; done)
      refine ⟨⟨_, rfl⟩, Fr, Hf1, μ1, ρ, fun x' μ' => x' = y ∧ μ' = μ1, s1, sl.mono e1, ⟨y, h2, rfl, rfl⟩, fun Hf2 μ2 H2 w y' e2 s2 r2 q2 => ?_⟩
      obtain ⟨rfl, rfl⟩ := q2
      cases r2 <;> simp only at hd <;> try (cases hd; done)
      split at hd
      · next hc =>
        cases hd
        refine ⟨_, _, rfl, rfl, by rw [beq_eq_false_iff_ne]; exact hc.1, Nat.le_trans (Nat.add_le_add_right hc.2 2) (by decide), fun p hp => ?_⟩
        exact kk _ _ _ _ _ (e1.trans (e2.trans (s2.sameF hp _))) (s2.newF hp _) (Rep.newL (s2.hr.hf_none hp) (Reps.strs _)) hk
      · cases hd
def gJoin (μ : Mu) (x y : D) : Option D := match x with
  | .str a => match items μ y with
    | some xs => match strsOf xs with
      | some ys => if (ys.map (·.length)).sum + ys.length * a.length ≤ 16777216 then some (.str (Txt.join a ys)) else none
      | none => none
    | none => none
  | _ => none
theorem pv_join {apos : Pos} (ho : PV X A o ea) (he : PV X A e eb) (hs : starEach [e] X.env = [(false, eval e X.env)] := by rfl) (hbase : attributeBase o "join" X.env (eval o X.env) = eval o X.env := by rfl) (hline : (apos.endLine == pos.line) = true := by rfl) :
    PV X A (.Call (.Attribute o "join" apos) [e] [] pos) (e2 gJoin ea eb) := PE.imp (pe_join ho he hs hbase hline) fun σ H Q q => by
  obtain ⟨Fr, Hf, μ, ρ, k, s, sl, ⟨d, hd, hk⟩, kk⟩ := q
  unfold e2 at hd
  cases h1 : ea ρ μ with
  | none => rw [h1] at hd; cases hd
  | some x =>
    cases h2 : eb ρ μ with
    | none => rw [h1, h2] at hd; cases hd
    | some y =>
      rw [h1, h2] at hd
      simp only [Option.bind_some] at hd
      refine ⟨Fr, Hf, μ, ρ, fun x' μ' => x' = x ∧ μ' = μ, s, sl, ⟨x, h1, rfl, rfl⟩, fun Hf1 μ1 H1 v x' e1 s1 r1 q1 => ?_⟩
      obtain ⟨rfl, rfl⟩ := q1
      cases r1 <;> simp only [gJoin] at hd <;> try (cases hd; done)
      refine ⟨⟨_, rfl⟩, Fr, Hf1, μ1, ρ, fun x' μ' => x' = y ∧ μ' = μ1, s1, sl.mono e1, ⟨y, h2, rfl, rfl⟩, fun Hf2 μ2 H2 w y' e2 s2 r2 q2 => ?_⟩
      obtain ⟨rfl, rfl⟩ := q2
      split at hd
      · next xs hx =>
        split at hd
        · next ys hy =>
          split at hd
          · next hc =>
            cases hd
            obtain ⟨a, vs, rfl, hq, rs⟩ := s2.hr.items r2 hx
            rw [strsOf_eq hy] at rs
            rw [rs.strs_inv] at hq
            exact ⟨_, a, ys, rfl, rfl, hq, hc, kk _ _ _ _ _ (e1.trans e2) s2 .str hk⟩
          · cases hd
        · cases hd
      · cases hd
/-- {x} in an f-string -/
def gFmt (_ : Mu) (x : D) : Option D := match x with
  | .str y => if y.length ≤ 1000000 then some (.str y) else none
  | .int i => if i.natAbs.log2 < 1920 then some (.str (toString i)) else none
  | _ => none
theorem pv_fmt (he : PV X A e ev) : PV X A (.FormattedValue e (-1) none pos) (e1 gFmt ev) := PE.imp (pe_fmt he) fun σ H Q q => by
  obtain ⟨Fr, Hf, μ, ρ, k, s, sl, ⟨d, hd, hk⟩, kk⟩ := q
  unfold e1 at hd
  cases h1 : ev ρ μ with
  | none => rw [h1] at hd; cases hd
  | some x =>
    rw [h1] at hd
    simp only [Option.bind_some] at hd
    refine ⟨Fr, Hf, μ, ρ, fun x' μ' => x' = x ∧ μ' = μ, s, sl, ⟨x, h1, rfl, rfl⟩, fun Hf1 μ1 H1 v x' e1 s1 r1 q1 => ?_⟩
    obtain ⟨rfl, rfl⟩ := q1
    cases r1 <;> simp only [gFmt] at hd <;> try (cases hd; done)
    · split at hd
      · next hc =>
        cases hd
        exact .inr ⟨_, rfl, hc, kk _ _ _ _ _ e1 s1 .str hk⟩
      · cases hd
    · split at hd
      · next hc =>
        cases hd
        exact .inl ⟨_, rfl, le_size6 hc, kk _ _ _ _ _ e1 s1 .str hk⟩
      · cases hd
/-- the parts of an f-string -/
inductive PJV (X : Cx) (A : Amb) : List Expr → List EvE → Prop where
  | nil : PJV X A [] []
  | cons {e : Expr} {t : EvE} {es : List Expr} {ts : List EvE} (h : PV X A e t) (r : PJV X A es ts) : PJV X A (e :: es) (t :: ts)
theorem PJV.pj {es : List Expr} {ts : List EvE} (h : PJV X A es ts) : PJ X es (ts.map fun t => tD X.K A (dP t)) := by
  induction h with
  | nil => exact .nil
  | cons h _ ih => exact .cons h ih
def eJs : List EvE → Str → EvE
  | [], acc => fun _ _ => some (.str acc)
  | t :: r, acc => fun ρ μ => match t ρ μ with
    | some (.str y) => if (acc ++ y).length ≤ 1000000 then eJs r (acc ++ y) ρ μ else none
    | _ => none
theorem js_ok {Fr : Hp} {ρ : Ro} {μ : Mu} {k : DK} {Q : VK} {d : D} : ∀ (ts : List EvE) (acc : Str) (Hf H : Hp) (σ : Sg), RS K A Fr Hf μ H → SlR K Hf σ ρ → eJs ts acc ρ μ = some d → k d μ → KK K A Fr Hf k Q → tJs (ts.map fun t => tD K A (dP t)) acc σ H fun out H1 => Q (.str out) H1
  | [], acc, Hf, H, σ, s, sl, hd, hk, kk => by
    cases hd
    exact kk.at s .str hk
  | t :: r, acc, Hf, H, σ, s, sl, hd, hk, kk => by
    simp only [eJs] at hd
    split at hd
    · next y hy =>
      split at hd
      · next hc =>
        refine ⟨Fr, Hf, μ, ρ, fun x' μ' => x' = .str y ∧ μ' = μ, s, sl, ⟨_, hy, rfl, rfl⟩, fun Hf1 μ1 H1 v x' e1 s1 r1 q1 => ?_⟩
        obtain ⟨rfl, rfl⟩ := q1
        cases r1
        exact ⟨_, rfl, le_size6 hc, js_ok r _ Hf1 H1 σ s1 (sl.mono e1) hd hk (kk.go e1)⟩
      · cases hd
    · cases hd
theorem pv_joined {v1 v2 : Expr} {rest : List Expr} {us : List EvE} (h : PJV X A (v1 :: v2 :: rest) us) : PV X A (.JoinedStr (v1 :: v2 :: rest) pos) (eJs us Str.empty) := PE.imp (pe_joined h.pj) fun σ H Q q => by
  obtain ⟨Fr, Hf, μ, ρ, k, s, sl, ⟨d, hd, hk⟩, kk⟩ := q
  exact js_ok us Str.empty Hf H σ s sl hd hk kk
/-- xs.index(y) of texts -/
def gIndex (μ : Mu) (x y : D) : Option D := match itemsL μ x with
  | some xs => match strsOf xs, y with
    | some ss, .str z => if z ∈ ss then some (.int (ss.idxOf z : Nat)) else none
    | _, _ => none
  | none => none
theorem pv_index {apos : Pos} (ho : PV X A o ea) (he : PV X A e eb)
    (hbase : attributeBase o "index" X.env (eval o X.env) = eval o X.env := by rfl)
    (hfew : ((backTo pos (starEach [e] X.env)).all (fun x => !x.1) && (backToKw pos (keywordEach [] X.env)).all (fun x => x.1.isSome)
      && decide ([e].length + ([] : List Keyword).length + (if ([] : List Keyword).isEmpty then 0 else 1) < 30)) = true := by rfl)
    (hline : (apos.endLine == pos.line) = true := by rfl) (hst : starEach [e] X.env = (false, eval e X.env) :: starEach [] X.env := by rfl) (hplain : (backTo pos (starEach [] X.env)).any (·.1) = false := by rfl) :
    PV X A (.Call (.Attribute o "index" apos) [e] [] pos) (e2 gIndex ea eb) := PE.imp (pe_bm PySem.F.plainAttrs_list PySem.F.slot_list_index PySem.F.type_list_index mt_index ho (pa_cons he pa_nil hst) hbase hfew hline hst hplain) fun σ H Q q => by
  obtain ⟨Fr, Hf, μ, ρ, k, s, sl, ⟨d, hd, hk⟩, kk⟩ := q
  unfold e2 at hd
  cases h1 : ea ρ μ with
  | none => rw [h1] at hd; cases hd
  | some x =>
    cases h2 : eb ρ μ with
    | none => rw [h1, h2] at hd; cases hd
    | some y =>
      rw [h1, h2] at hd
      simp only [Option.bind_some, gIndex] at hd
      split at hd
      · next xs hx =>
        split at hd
        · next ss z hss =>
          split at hd
          · next hm =>
            cases hd
            refine ⟨Fr, Hf, μ, ρ, fun x' μ' => x' = x ∧ μ' = μ, s, sl, ⟨x, h1, rfl, rfl⟩, fun Hf1 μ1 H1 v x' e1 s1 r1 q1 => ?_⟩
            obtain ⟨rfl, rfl⟩ := q1
            obtain ⟨a, vs, rfl, hq, _⟩ := s1.hr.itemsL r1 hx
            refine ⟨tyV_list rfl hq, Fr, Hf1, μ1, ρ, fun x' μ' => x' = .str z ∧ μ' = μ1, s1, sl.mono e1, ⟨_, h2, rfl, rfl⟩, fun Hf2 μ2 H2 w y' e2 s2 r2 q2 => ?_⟩
            obtain ⟨rfl, rfl⟩ := q2
            cases r2
            obtain ⟨a', us, ha, hq2, rs2⟩ := s2.hr.itemsL (r1.mono e2) hx
            cases ha
            rw [strsOf_eq hss] at rs2
            rw [rs2.strs_inv] at hq2
            have hlt : ss.idxOf z < ss.length := List.idxOf_lt_length_of_mem hm
            have fs : ∀ l : List Str, (l.map V.str).all flatV = true := fun l => by
              induction l with
              | nil => rfl
              | cons n r ih =>
                rw [List.map_cons, List.all_cons, ih]
                rfl
            refine ⟨a, ss.map V.str, .str z, ss.idxOf z, .str z, rfl, rfl, hq2, rfl, fs ss, ?_, ?_, fun m z' hm1 hz' => ?_, kk _ _ _ _ _ (e1.trans e2) s2 .int hk⟩
            · rw [List.getElem?_map, List.getElem?_eq_getElem hlt, List.getElem_idxOf]
              rfl
            · show (z == z) = true
              exact beq_self_eq_true z
            · rw [List.getElem?_map] at hz'
              have hml : m < ss.length := Nat.lt_trans hm1 hlt
              rw [List.getElem?_eq_getElem hml] at hz'
              cases hz'
              show (ss[m] == z) = false
              have := List.not_of_lt_findIdx (p := (· == z)) (xs := ss) hm1
              simpa using this
          · cases hd
        · cases hd
      · cases hd
end
end DL
end

section
set_option maxRecDepth 100000
set_option maxHeartbeats 2000000
/-! DL13: constants of a module, a try that runs through, repr, defs that ask for no guards. -/
namespace DL
open PySem PySem.Spec PyProof.Rows L2

theorem hu_room {A : Around} {k : Nat} (h : Room k A) : A.units + 65 < cLine := by
  have := h.un
  omega
theorem hu64 {A : Around} (h : A.units + 65 < cLine) : A.units + 64 < cLine := by omega
theorem hu0 {A : Around} (h : A.units + 65 < cLine) : A.units < cLine := by omega
section
variable {X : Cx} {A : Amb} {K : PySem.W.Frag} {e a b c o : Expr} {pos : Pos} {es : List Expr} {ev ea eb : EvE} {ts : EvA} {t : DA}
/-- a constant of a module -/
def GlB (mg : Str → Option Value) (x : Str) (v : V) : Prop := ∃ u, mg x = some u ∧ RelV v u
theorem pv_gl {x : Str} {v : V} {d : D} (B : GlB X.mg x v) (hg : Gl X x) (r : ∀ H, Rep X.K H v d) (hd : (x == ("__debug__" : Str)) = false := by decide) : PV X A (.Name x pos) (eC d) := by
  obtain ⟨u, hm, rv⟩ := B
  exact pv_c (pe_glob hg hm rv hd) r
def gNeg (_ : Mu) : D → Option D
  | .int i => some (.int (-i))
  | _ => none
theorem pv_neg (h : PV X A a ea) : PV X A (.UnaryOp .USub a pos) (e1 gNeg ea) := PE.imp (pe_un un_neg h) fun σ H Q q => by
  obtain ⟨Fr, Hf, μ, ρ, k, s, sl, ⟨d, hd, hk⟩, kk⟩ := q
  unfold e1 at hd
  cases h1 : ea ρ μ with
  | none => rw [h1] at hd; cases hd
  | some x =>
    rw [h1] at hd
    refine ⟨Fr, Hf, μ, ρ, fun x' μ' => x' = x ∧ μ' = μ, s, sl, ⟨x, h1, rfl, rfl⟩, fun Hf1 μ1 H1 v x' e1 s1 r1 q1 => ?_⟩
    obtain ⟨rfl, rfl⟩ := q1
    cases r1 <;> simp only [Option.bind_some, gNeg] at hd <;> try (cases hd; done)
    cases hd
    exact ⟨_, rfl, kk _ _ _ _ _ e1 s1 .int hk⟩
/-! ### repr -/
def gRepr (μ : Mu) : List D → Option D
  | [x] => match pyOf μ x with
    | some d => if PyProof.Rows.isDisplay d = true ∧ d.showable = true ∧ d.hasDict = false ∧ d.depth ≤ 60 ∧ d.shown.length ≤ 1000000 then some (.str d.shown) else none
    | none => none
  | _ => none
def rRepr (K : PySem.W.Frag) : List V → Hp → VK → Prop := fun xs H Q => ∃ v d, xs = [v] ∧ Dp K H v d ∧ PyProof.Rows.isDisplay d = true ∧ d.showable = true ∧ d.hasDict = false ∧ d.depth ≤ 60 ∧ d.shown.length ≤ sizeLine ∧ Q (.str d.shown) H
theorem cr_repr (hG : X.A.guards = some []) (hu : X.A.units + 64 < cLine) : CallR X (.builtin "repr") (rRepr X.K) := by
  intro pins s σ H vs us Q I r h
  obtain ⟨v, d, rfl, hd, h1, h2, h3, h4, h5, q⟩ := h
  obtain ⟨u, rfl, ru⟩ := vals1 r
  obtain ⟨as, hr⟩ := Dp.reads I _ _ _ hd ru
  obtain ⟨a, rfl⟩ := PyProof.Rows.isRef_of_reads hr h1
  exact repr_of_reads' hr h2 (PyData.noDict_hsm h3) hG (by omega) (fun _ _ e => e) (fun h' t tk hk => ⟨.str d.shown, H, I.kept hk, ⟨_, rfl⟩, q⟩) h5
theorem sd_repr : SdC K A (rRepr K) (pN gRepr) := sdc_of fun Fr Hf μ H vs xs d Q s rs hg q _ => by
  match xs, hg with
  | [x], hg =>
    obtain ⟨v, rfl, r⟩ := rs.one_inv
    simp only [gRepr] at hg
    split at hg
    · next e he =>
      split at hg
      · next hc =>
        cases hg
        exact ⟨v, e, rfl, pyOf_dp s r he, hc.1, hc.2.1, hc.2.2.1, hc.2.2.2.1, le_size6 hc.2.2.2.2, q _ .str⟩
      · cases hg
    · cases hg
/-! ### try: the body raises nothing -/
theorem psd_try {x : Str} {c : Value} {b0 : Stmt} {body suite : List Stmt} {np pos' : Pos} {d : DS} (hs : X.stack = X.env :: X.outer) (hf : X.env.frame = some X.env.locals) (hn : Names X x c)
    (hb : ∀ (pn : List (Addr × Obj)) (xe : Value → Shared → Prop), PassesOwn (model X.prog X.w) X.A X.env xe → PSsD (X.tr pn xe) A body d) : PSD X A (.Try body [.ExceptHandler (some (.Name x np)) none (b0 :: suite) pos'] [] [] pos) d :=
  ps_try_only (Wout := fun _ _ _ _ => False) (tb := fun _ => tDS X.K A d) (ts := fun _ _ _ => tNever) hs hf hn (fun u s' ⟨_, _, _, _, _, _, _, _, _, _, _, _, _, _, _, _, w⟩ => w.elim) (fun W pn xe _ hp => hb pn xe hp) fun _ _ _ _ _ _ _ => pss_never
/-! ### defs that are called while nothing is being shown -/
structure FnG (P : Program) (w : World) (K : PySem.W.Frag) (mg : Str → Option Value) (base : Heap) (k : Nat) (f : Addr) (fd : FuncData) (ps : List Str) (sp : Sp) : Prop where
  len : ∀ vs H Q E, sp vs H Q E → vs.length = ps.length
  run : ∀ (A : Around) (outer : List Env) (s : Shared) (H : Hp) (args : Args) (us : List Value) (vs : List V) (Q : VK) (E : XK), Room k A → A.guards = some [] → Env0 P w K mg base A outer s H → BindsTo s fd args (ps.zip us) → Vals vs us →
    sp vs H Q E → codeAny (model P w) A (.call (.ref f) args) (CR CX0 outer P w H s Q E) s
def FnBG (P : Program) (w : World) (K : PySem.W.Frag) (mg : Str → Option Value) (base : Heap) (k : Nat) (x : Str) (dvs : List D) (m : Nat) (S : DC) : Prop :=
  ∃ (f : Addr) (fd : FuncData) (ps : List Str) (vs : List V) (us : List Value), FnG P w K mg base k f fd ps (dsp K m S) ∧ mg x = some (.ref f) ∧ PySem.W.keepIn K (.ref f) = true ∧ Binds K fd ps us ∧ Vals vs us ∧ ∀ H, Reps K H vs dvs
theorem FnG.of {P : Program} {w : World} {mg : Str → Option Value} {base : Heap} {k : Nat} {f : Addr} {fd : FuncData} {ps : List Str} {sp : Sp} (F : FnOk P w K mg base CX0 k f fd ps sp) : FnG P w K mg base k f fd ps sp :=
  ⟨F.len, fun A outer s H args us vs Q E hr _ => F.run A outer s H args us vs Q E hr⟩
theorem pd_fnG {k j m : Nat} {x : Str} {p : Pos} {dvs : List D} {S : DC} (B : FnBG X.prog X.w X.K X.mg X.base k x dvs m S) (hr : Room j X.A) (hG : X.A.guards = some []) (hg : Gl X x) (ha : PAD X A (e :: es) t) (hk : k ≤ j := by decide) (hdb : (x == ("__debug__" : Str)) = false := by decide)
    (he : starEach (e :: es) X.env = (false, eval e X.env) :: starEach es X.env := by rfl) (hpl : (backTo pos (starEach es X.env)).any (·.1) = false := by rfl) : PD X A (.Call (.Name x p) (e :: es) [] pos) (dFn S dvs m t) := by
  obtain ⟨f, fd, ps, vs, ds, F, hm, hkp, hb, hd, hv⟩ := B
  refine ⟨fun pins s σ H Q I h => ?_⟩
  have h1 := fn_ok (E := E0) hv h
  refine wpAny_Call_Name_kw (ld_glob I hg hm ?_ hdb)
  refine PySem.W.callWith_K (h₀ := X.base) I.ok.mod.kin hkp (thn (ha.run pos pins s σ H _ I h1) fun us s1 ⟨zs, H1, I1, r, q⟩ => ⟨I1.kIn, ?_⟩) he hpl
  have r2 : Vals (zs ++ vs) (us ++ ds) := r.append hd
  have hl : (us ++ ds).length = ps.length := by
    rw [← r2.length]
    exact F.len _ _ _ _ q
  refine wpAny_call (codeAny_mono (F.run X.A X.stack s1 H1 ⟨us, []⟩ (us ++ ds) (zs ++ vs) Q E0 (hr.mono hk) hG I1.env0 (hb s1 us I1.kIn hl) r2 q) fun fl s' hq => ?_)
  cases fl with
  | error z => exact hq.elim
  | ok fl =>
    cases fl with
    | ret u => exact I1.after hq
    | next => exact hq.elim
    | brk => exact hq.elim
    | cont => exact hq.elim
end
section
variable {P : Program} {w : World} {K : PySem.W.Frag} {mg : Str → Option Value} {base : Heap}
/-- THE RULE for such a def -/
theorem ok_fnG {x qual : Str} {st : Stmt} {f : Addr} {fd : FuncData} {N ps : List Str} {k : Nat} {S : DC} (F : Fun K x qual st f fd) (Sc : FnScope N ps (defScope st)) (body : DS)
    (hb : ∀ (cdv : Value) (A : Around) (outer : List Env) (s : Shared) (H : Hp) (E : XK), Room k (A.deeper (envOfC qual (defScope st) s.heap.objs.size f cdv)) → A.guards = some [] → PSsD (cxOf CX0 P w K mg base N qual (defScope st) f cdv A outer s H E).nox Amb.none (defBody st) body)
    (sem : ∀ ds μ kont, ds.length = ps.length → S ds μ kont → body { nx := fun _ μ' => GhV kont .non μ', rt := GhV kont } (startD N ds) μ) : FnG P w K mg base (k + 1) f fd ps (dsp K ps.length S) := by
  obtain ⟨oc, od, kV, doc, pm, an, cdv, ct, osl, rfl, lk, hcd⟩ := F.ex
  refine ⟨fun vs H Q E h => dsp_len h, fun A outer s H args us vs Q E hr hG e0 hbd r hsp => ?_⟩
  have hlen : vs.length = ps.length := dsp_len hsp
  have KX : K.In s.heap := e0.mod.kin.keeps fun b o q => (e0.bs b o q).1
  have hlim : s.heap.NoLimit := e0.mod.nolimit.keeps fun b o q => (e0.bs b o q).1
  refine codeAny_call_function hr.depth (KX _ _ lk) rfl Sc.co Sc.gen rfl (PySem.W.codeRec_of KX hcd) (hbd _ _ _ _ ?_)
  refine wpAny_newFunctionEnv_cells Sc.kind (fun ⟨n, v⟩ hy => ?_) fun env he s1 z => ?_
  · rcases Sc.par n (List.of_mem_zip hy).1 with q | q
    · exact .inl q
    · exact .inr ⟨q, PySem.W.cellsFrom_some _ _ _ (.inl q)⟩
  subst he
  refine ⟨hlim.keeps z.toInCall.keep, codeAny_func ?_⟩
  obtain ⟨Fr, Hf, μ, ds, kont, hR, rr, hn, hS, kk⟩ := hsp
  have hbody := (hb cdv A outer s H E (hr.deeper _) hG).nox
  have I : Inv (cxOf CX0 P w K mg base N qual (defScope st) f cdv A outer s H E) [] (L2.start N vs) H s1 := inv_start Sc hr.hd e0 hlen r z
  have start0 : tDS K Amb.none body { nx := fun _ H' => Q .non H', rt := Q } (L2.start N vs) H :=
    ⟨Fr, Hf, μ, startD N ds, _, ⟨hR, trivial⟩, slr_start rr, sem ds μ kont hn hS, ⟨fun Hf1 μ1 H1 σ1 ρ1 e1 s1 _ h1 => h1.run s1 .non (kk.go e1), kk.gh, fun _ _ _ _ _ _ _ _ h => h.elim, fun _ _ _ _ _ _ _ _ h => h.elim⟩⟩
  refine wpAny_mono (hbody.run [] s1 (L2.start N vs) H _ I start0) (fun fl s' hs => ?_) fun _ _ q => q
  cases fl with
  | ret u =>
    obtain ⟨v, σ', H', J, rv, q⟩ := hs
    exact ⟨v, H', J.os, J.bare, J.base, J.hok, rv, q⟩
  | next =>
    obtain ⟨σ', H', J, q⟩ := hs
    exact ⟨.non, H', J.os, J.bare, J.base, J.hok, rfl, q⟩
  | brk =>
    obtain ⟨_, _, _, q⟩ := hs
    exact q.elim
  | cont =>
    obtain ⟨_, _, _, q⟩ := hs
    exact q.elim
end
end DL
end

section
set_option maxRecDepth 100000
/-! DLP: bodies that change nothing, as functions. -/
namespace DL
open PySem PySem.Spec PyProof.Rows L2

/-- a value that is returned, or the slots to go on with, or break, or continue -/
inductive Fw where
  | ret (d : D) | nx (ρ : Ro) | bk (ρ : Ro) | ct (ρ : Ro)
abbrev EvS := Ro → Mu → Option Fw
def fwEnd (E : DEnds) (μ : Mu) : Option Fw → Prop
  | some (.ret d) => E.rt d μ
  | some (.nx ρ) => E.nx ρ μ
  | some (.bk ρ) => E.bk ρ μ
  | some (.ct ρ) => E.ct ρ μ
  | none => False
def Pu (d : DS) (ev : EvS) : Prop := ∀ E ρ μ, fwEnd E μ (ev ρ μ) → d E ρ μ
def zRet (e : EvE) (ρ : Ro) (μ : Mu) : Option Fw := match e ρ μ with
  | some d => some (.ret d)
  | none => none
def zRetN (_ : Ro) (_ : Mu) : Option Fw := some (.ret .non)
def zNext (ρ : Ro) (_ : Mu) : Option Fw := some (.nx ρ)
def zBrk (ρ : Ro) (_ : Mu) : Option Fw := some (.bk ρ)
def zCnt (ρ : Ro) (_ : Mu) : Option Fw := some (.ct ρ)
def zNever (_ : Ro) (_ : Mu) : Option Fw := none
def zDrop (e : EvE) (ρ : Ro) (μ : Mu) : Option Fw := match e ρ μ with
  | some _ => some (.nx ρ)
  | none => none
def zSeq (a b : EvS) (ρ : Ro) (μ : Mu) : Option Fw := match a ρ μ with
  | some (.nx ρ') => b ρ' μ
  | x => x
def zIf (t : EvT) (a b : EvS) (ρ : Ro) (μ : Mu) : Option Fw := match t ρ μ with
  | some true => a ρ μ
  | some false => b ρ μ
  | none => none
def zAsg (e : EvE) (g : EvG) (ρ : Ro) (μ : Mu) : Option Fw := match e ρ μ with
  | some x => match g x ρ μ with
    | some ρ' => some (.nx ρ')
    | none => none
  | none => none
def zPar (i j : Nat) (t : EvA) (ρ : Ro) (μ : Mu) : Option Fw := match t ρ μ with
  | some [x, y] => some (.nx (setS (setS ρ i (some x)) j (some y)))
  | _ => none
def zPar3 (i j l : Nat) (t : EvA) (ρ : Ro) (μ : Mu) : Option Fw := match t ρ μ with
  | some [x, y, z] => some (.nx (setS (setS (setS ρ i (some x)) j (some y)) l (some z)))
  | _ => none
def zForGo (g : EvG) (b : EvS) (μ : Mu) : List D → Ro → Option Fw
  | [], ρ => some (.nx ρ)
  | x :: r, ρ => match g x ρ μ with
    | some ρ1 => match b ρ1 μ with
      | some (.nx ρ2) => zForGo g b μ r ρ2
      | some (.ct ρ2) => zForGo g b μ r ρ2
      | some (.bk ρ2) => some (.nx ρ2)
      | some (.ret d) => some (.ret d)
      | none => none
    | none => none
def zFor (ip : EvI) (g : EvG) (b : EvS) (ρ : Ro) (μ : Mu) : Option Fw := match ip ρ μ with
  | some ds => zForGo g b μ ds ρ
  | none => none
theorem pu_ret {e : EvE} : Pu (sRet (dP e)) (zRet e) := fun E ρ μ h => by
  unfold zRet at h
  cases h1 : e ρ μ with
  | none => rw [h1] at h; exact h.elim
  | some d =>
    rw [h1] at h
    exact ⟨d, h1, h⟩
theorem pu_retN : Pu sRetN zRetN := fun E ρ μ h => h
theorem pu_next : Pu sNext zNext := fun E ρ μ h => h
theorem pu_brk : Pu sBrk zBrk := fun E ρ μ h => h
theorem pu_cnt : Pu sCnt zCnt := fun E ρ μ h => h
theorem pu_never : Pu sNever zNever := fun E ρ μ h => h
theorem pu_drop {e : EvE} : Pu (sDrop (dP e)) (zDrop e) := fun E ρ μ h => by
  unfold zDrop at h
  cases h1 : e ρ μ with
  | none => rw [h1] at h; exact h.elim
  | some d =>
    rw [h1] at h
    exact ⟨d, h1, h⟩
theorem pu_seq {a b : DS} {u v : EvS} (h1 : Pu a u) (h2 : Pu b v) : Pu (sSeq a b) (zSeq u v) := fun E ρ μ h => by
  refine h1 _ ρ μ ?_
  unfold zSeq at h
  cases hu : u ρ μ with
  | none => rw [hu] at h; exact h.elim
  | some f =>
    rw [hu] at h
    cases f with
    | nx ρ' => exact h2 E ρ' μ h
    | ret d => exact h
    | bk ρ' => exact h
    | ct ρ' => exact h
theorem pu_if {t : EvT} {a b : DS} {u v : EvS} (h1 : Pu a u) (h2 : Pu b v) : Pu (sIf (dPT t) a b) (zIf t u v) := fun E ρ μ h => by
  unfold zIf at h
  cases ht : t ρ μ with
  | none => rw [ht] at h; exact h.elim
  | some c =>
    rw [ht] at h
    refine ⟨c, ht, ?_⟩
    cases c with
    | true =>
      rw [if_pos rfl]
      exact h1 E ρ μ h
    | false =>
      rw [if_neg Bool.false_ne_true]
      exact h2 E ρ μ h
theorem pu_asg {e : EvE} {g : DG} {gp : EvG} (hg : ∀ x ρ μ k, dgP gp x ρ μ k → g x ρ μ k) : Pu (sAsg (dP e) g) (zAsg e gp) := fun E ρ μ h => by
  unfold zAsg at h
  cases h1 : e ρ μ with
  | none => rw [h1] at h; exact h.elim
  | some x =>
    rw [h1] at h
    simp only at h
    cases h2 : gp x ρ μ with
    | none => rw [h2] at h; exact h.elim
    | some ρ' =>
      rw [h2] at h
      exact ⟨x, h1, hg _ _ _ _ ⟨ρ', h2, h⟩⟩
theorem pu_par {i j : Nat} {t : EvA} : Pu (sPar i j (dPA t)) (zPar i j t) := fun E ρ μ h => by
  unfold zPar at h
  split at h
  · next x y h1 => exact ⟨_, h1, h⟩
  · exact h.elim
theorem pu_par3 {i j l : Nat} {t : EvA} : Pu (sPar3 i j l (dPA t)) (zPar3 i j l t) := fun E ρ μ h => by
  unfold zPar3 at h
  split at h
  · next x y z h1 => exact ⟨_, h1, h⟩
  · exact h.elim
theorem pu_gh {a : DS} {u : EvS} (h : Pu a u) : Pu (sGh a) u := fun E ρ μ q => by
  refine h _ ρ μ ?_
  cases hu : u ρ μ with
  | none => rw [hu] at q; exact q.elim
  | some f =>
    rw [hu] at q
    cases f with
    | nx ρ' => exact GhS.done q
    | ret d => exact q
    | bk ρ' => exact q
    | ct ρ' => exact GhS.done q
/-- what a source yields while nothing changes -/
def SrcOk (it : DI) (ip : EvI) : Prop := ∀ ρ μ ds, ip ρ μ = some ds → ∀ k : List D → (Mu → Prop) → Mu → Prop, (∀ ok, ok μ → k ds ok μ) → it ρ μ k
theorem forGo_ok {g : DG} {gp : EvG} {b : DS} {u : EvS} {E : DEnds} {μ : Mu} {ok : Mu → Prop} (hok : ok μ) (hg : ∀ x ρ μ k, dgP gp x ρ μ k → g x ρ μ k) (hb : Pu b u) : ∀ (ds : List D) (ρ : Ro), fwEnd E μ (zForGo gp u μ ds ρ) → forL g b E ok ds ρ μ
  | [], ρ, h => ⟨hok, h⟩
  | x :: r, ρ, h => by
    refine ⟨hok, ?_⟩
    simp only [zForGo] at h
    cases h1 : gp x ρ μ with
    | none => rw [h1] at h; exact h.elim
    | some ρ1 =>
      rw [h1] at h
      simp only at h
      refine hg _ _ _ _ ⟨ρ1, h1, hb _ ρ1 μ ?_⟩
      cases h2 : u ρ1 μ with
      | none => rw [h2] at h; exact h.elim
      | some f =>
        rw [h2] at h
        cases f with
        | nx ρ2 => exact forGo_ok hok hg hb r ρ2 h
        | ct ρ2 => exact forGo_ok hok hg hb r ρ2 h
        | bk ρ2 => exact h
        | ret d => exact h
theorem pu_for {it : DI} {ip : EvI} {g : DG} {gp : EvG} {b : DS} {u : EvS} (hi : SrcOk it ip) (hg : ∀ x ρ μ k, dgP gp x ρ μ k → g x ρ μ k) (hb : Pu b u) : Pu (sFor it g b) (zFor ip gp u) := fun E ρ μ h => by
  unfold zFor at h
  cases h1 : ip ρ μ with
  | none => rw [h1] at h; exact h.elim
  | some ds =>
    rw [h1] at h
    exact hi ρ μ ds h1 _ fun ok hok => forGo_ok hok hg hb ds ρ h
theorem src_seq {ev : EvE} : SrcOk (iSeq (dP ev)) (ipSeq ev) := fun ρ μ ds h k hk => by
  unfold ipSeq at h
  cases h1 : ev ρ μ with
  | none => rw [h1] at h; cases h
  | some x =>
    rw [h1] at h
    refine ⟨x, h1, ds, h, hk _ ?_⟩
    cases x <;> first | trivial | exact okOf_self (show items μ _ = some ds from h)
theorem src_rg1 {ts : EvA} : SrcOk (iRg1 (dPA ts)) (ipRg1 ts) := fun ρ μ ds h k hk => by
  unfold ipRg1 at h
  cases h1 : ts ρ μ with
  | none => rw [h1] at h; cases h
  | some xs =>
    rw [h1] at h
    refine ⟨xs, h1, ?_⟩
    match xs, h with
    | [.int j], h =>
      simp only [Option.bind_some] at h
      split at h
      · next hc =>
        cases h
        exact ⟨hc, hk _ trivial⟩
      · cases h
theorem src_rg2 {ts : EvA} : SrcOk (iRg2 (dPA ts)) (ipRg2 ts) := fun ρ μ ds h k hk => by
  unfold ipRg2 at h
  cases h1 : ts ρ μ with
  | none => rw [h1] at h; cases h
  | some xs =>
    rw [h1] at h
    refine ⟨xs, h1, ?_⟩
    match xs, h with
    | [.int i, .int j], h =>
      simp only [Option.bind_some] at h
      split at h
      · next hc =>
        cases h
        exact ⟨hc, hk _ trivial⟩
      · cases h
/-! pure targets -/
theorem ge_name {i : Nat} : ∀ x ρ μ k, dgP (egName i) x ρ μ k → dgName i x ρ μ k := fun x ρ μ k h => by
  obtain ⟨ρ', h1, h2⟩ := h
  cases h1
  exact h2
theorem ge_nil : ∀ xs ρ μ k, dgsP egNil xs ρ μ k → dgNil xs ρ μ k := fun x ρ μ k h => by
  obtain ⟨ρ', h1, h2⟩ := h
  cases x with
  | nil =>
    cases h1
    exact ⟨rfl, h2⟩
  | cons => cases h1
theorem ge_cons {g : DG} {gp : EvG} {gs : DGs} {gps : EvGs} (h1 : ∀ x ρ μ k, dgP gp x ρ μ k → g x ρ μ k) (h2 : ∀ xs ρ μ k, dgsP gps xs ρ μ k → gs xs ρ μ k) : ∀ xs ρ μ k, dgsP (egCons gp gps) xs ρ μ k → dgCons g gs xs ρ μ k := fun x ρ μ k h => by
  obtain ⟨ρ', h3, h4⟩ := h
  cases x with
  | nil => cases h3
  | cons x r =>
    simp only [egCons] at h3
    cases h5 : gp x ρ μ with
    | none => rw [h5] at h3; cases h3
    | some ρ1 =>
      rw [h5] at h3
      exact h1 _ _ _ _ ⟨ρ1, h5, h2 _ _ _ _ ⟨ρ', h3, h4⟩⟩
theorem ge_tup {n : Nat} {gs : DGs} {gps : EvGs} (h2 : ∀ xs ρ μ k, dgsP gps xs ρ μ k → gs xs ρ μ k) : ∀ x ρ μ k, dgP (egTup n gps) x ρ μ k → dgTup n gs x ρ μ k := fun x ρ μ k h => by
  obtain ⟨ρ', h1, h3⟩ := h
  unfold egTup at h1
  cases h4 : itemsT x with
  | none => rw [h4] at h1; cases h1
  | some xs =>
    rw [h4] at h1
    simp only [Option.bind_some] at h1
    split at h1
    · next hl => exact ⟨xs, h4, hl, h2 _ _ _ _ ⟨ρ', h1, h3⟩⟩
    · cases h1
def egStar (n i : Nat) (gs : EvGs) (x : D) (ρ : Ro) (μ : Mu) : Option Ro := match itemsL μ x with
  | some xs => if i < n ∧ n ≤ xs.length + 1 ∧ xs.length ≤ 16000 then gs (xs.take i ++ [.lst ((xs.drop i).take (xs.length + 1 - n))] ++ (xs.drop i).drop (xs.length + 1 - n)) ρ μ else none
  | none => none
theorem ge_star {n i : Nat} {gs : DGs} {gps : EvGs} (h2 : ∀ xs ρ μ k, dgsP gps xs ρ μ k → gs xs ρ μ k) : ∀ x ρ μ k, dgP (egStar n i gps) x ρ μ k → dgStar n i gs x ρ μ k := fun x ρ μ k h => by
  obtain ⟨ρ', h1, h3⟩ := h
  unfold egStar at h1
  split at h1
  · next xs hx =>
    split at h1
    · next hc => exact ⟨xs, hx, hc, h2 _ _ _ _ ⟨ρ', h1, h3⟩⟩
    · cases h1
  · cases h1
/-- what such a body gives -/
def gOf (N : List Str) (ev : EvS) (μ : Mu) (ds : List D) : Option D := match ev (startD N ds) μ with
  | some (.ret d) => some d
  | some (.nx _) => some .non
  | _ => none
theorem sem_pure {N : List Str} {ev : EvS} {d : DS} (h : Pu d ev) : ∀ (ds : List D) (μ : Mu) (kont : DK), pN (gOf N ev) ds μ kont → d { nx := fun _ μ' => GhV kont .non μ', rt := GhV kont } (startD N ds) μ := fun ds μ kont q => by
  obtain ⟨x, hx, hk⟩ := q
  refine h _ _ _ ?_
  unfold gOf at hx
  split at hx
  · next d h1 =>
    cases hx
    rw [h1]
    exact GhV.done hk
  · next ρ h1 =>
    cases hx
    rw [h1]
    exact GhV.done hk
  · cases hx
end DL
end

section
set_option maxRecDepth 100000
/-! DLQ: words for proofs over bodies: loops, lists at places. -/
namespace DL
open PySem PySem.Spec PyProof.Rows L2

theorem forL_by {g : DG} {u : DS} {E : DEnds} {ok : Mu → Prop} (P : List D → Ro → Mu → Prop) (hok : ∀ r ρ μ, P r ρ μ → ok μ)
    (step : ∀ x r ρ μ (N : Ro → Mu → Prop), P (x :: r) ρ μ → (∀ ρ' μ', P r ρ' μ' → N ρ' μ') → g x ρ μ fun ρ1 μ1 => u { E with nx := N, ct := N, bk := E.nx } ρ1 μ1) (fin : ∀ ρ μ, P [] ρ μ → E.nx ρ μ) : ∀ (ds : List D) (ρ : Ro) (μ : Mu), P ds ρ μ → forL g u E ok ds ρ μ
  | [], ρ, μ, h => ⟨hok _ _ _ h, fin ρ μ h⟩
  | x :: r, ρ, μ, h => ⟨hok _ _ _ h, step x r ρ μ _ h fun ρ' μ' h' => forL_by P hok step fin r ρ' μ' h'⟩
/-- by the place: Q i behind i turns -/
theorem forL_ix {g : DG} {u : DS} {E : DEnds} {ok : Mu → Prop} {ds : List D} (Q : Nat → Ro → Mu → Prop) (hok : ∀ i ρ μ, Q i ρ μ → ok μ)
    (step : ∀ i x ρ μ (N : Ro → Mu → Prop), ds[i]? = some x → Q i ρ μ → (∀ ρ' μ', Q (i + 1) ρ' μ' → N ρ' μ') → g x ρ μ fun ρ1 μ1 => u { E with nx := N, ct := N, bk := E.nx } ρ1 μ1) (fin : ∀ ρ μ, Q ds.length ρ μ → E.nx ρ μ) {ρ : Ro} {μ : Mu} (h0 : Q 0 ρ μ) : forL g u E ok ds ρ μ := by
  have st : ∀ x r ρ μ (N : Ro → Mu → Prop), (∃ i, i ≤ ds.length ∧ x :: r = ds.drop i ∧ Q i ρ μ) → (∀ ρ' μ', (∃ i, i ≤ ds.length ∧ r = ds.drop i ∧ Q i ρ' μ') → N ρ' μ') → g x ρ μ fun ρ1 μ1 => u { E with nx := N, ct := N, bk := E.nx } ρ1 μ1 := by
    intro x r ρ μ N hP hN
    obtain ⟨i, hi, hr, h⟩ := hP
    have hx : ds[i]? = some x := by
      have := congrArg List.head? hr
      rw [List.head?_drop] at this
      exact this.symm
    have hlt : i < ds.length := (List.getElem?_eq_some_iff.mp hx).1
    refine step i x ρ μ N hx h fun ρ' μ' h' => hN _ _ ⟨i + 1, hlt, ?_, h'⟩
    have := congrArg List.tail hr
    rw [List.tail_drop] at this
    exact this
  have fn : ∀ ρ μ, (∃ i, i ≤ ds.length ∧ ([] : List D) = ds.drop i ∧ Q i ρ μ) → E.nx ρ μ := by
    intro ρ μ hP
    obtain ⟨i, hi, hr, h⟩ := hP
    have : ds.length ≤ i := by
      have := congrArg List.length hr
      rw [List.length_drop, List.length_nil] at this
      omega
    have e : i = ds.length := by omega
    subst e
    exact fin ρ μ h
  exact forL_by (fun r ρ μ => ∃ i, i ≤ ds.length ∧ r = ds.drop i ∧ Q i ρ μ) (fun r ρ μ h => by obtain ⟨i, _, _, h⟩ := h; exact hok i ρ μ h) st fn ds ρ μ ⟨0, Nat.zero_le _, by rw [List.drop_zero], h0⟩
/-- while: W by a measure -/
theorem while_by {ev : EvT} {u : DS} {E : DEnds} (W : Nat → Ro → Mu → Prop) (m : Nat) {ρ : Ro} {μ : Mu} (h0 : W m ρ μ)
    (step : ∀ m ρ μ, W m ρ μ → ∃ b, ev ρ μ = some b ∧ (b = true → ∀ N : Ro → Mu → Prop, (∀ m' ρ' μ', m' < m → W m' ρ' μ' → N ρ' μ') → u { E with nx := N, ct := N, bk := E.nx } ρ μ) ∧ (b = false → E.nx ρ μ)) : sWhile (dPT ev) u E ρ μ := by
  refine ⟨W, ⟨m, h0⟩, fun m ρ μ h => ?_⟩
  obtain ⟨b, h1, h2, h3⟩ := step m ρ μ h
  refine ⟨b, h1, ?_⟩
  cases b with
  | true =>
    rw [if_pos rfl]
    exact ⟨fun ρ' μ' => ∃ m', m' < m ∧ W m' ρ' μ', fun _ _ h => h, h2 rfl _ fun m' ρ' μ' a b => ⟨m', a, b⟩⟩
  | false =>
    rw [if_neg Bool.false_ne_true]
    exact h3 rfl
section
variable {μ : Mu} {p : Addr} {xs : List D} {j : Nat} {d : D}
theorem items_loc (h : μ p = some (.lst xs)) : items μ (.loc p) = some xs := by
  simp only [items, h]
theorem itemsL_loc (h : μ p = some (.lst xs)) : itemsL μ (.loc p) = some xs := by
  simp only [itemsL, h]
theorem itemsM_loc (h : μ p = some (.lst xs)) : itemsM μ (.loc p) = some xs := by
  simp only [itemsM, h]
theorem ix_loc (h : μ p = some (.lst xs)) (hj : xs[j]? = some d) : gIx μ (.loc p) (.int (j : Int)) = some d := by
  simp only [gIx, items, h]
  exact atI_nat hj
theorem ix_loc0 {x : D} {r : List D} (h : μ p = some (.lst (x :: r))) : gIx μ (.loc p) (.int 0) = some x := ix_loc (j := 0) h rfl
theorem ix_lst (hj : xs[j]? = some d) : gIx μ (.lst xs) (.int (j : Int)) = some d := by
  simp only [gIx, items]
  exact atI_nat hj
theorem ix_tup (hj : xs[j]? = some d) : gIx μ (.tup xs) (.int (j : Int)) = some d := by
  simp only [gIx, items]
  exact atI_nat hj
theorem ixN_nat {n : Nat} (h : j < n) : ixN n (j : Int) = some j := Evl.ixN_nat h
theorem lstAt_i {k : Addr → List D → Prop} (h : μ p = some (.lst xs)) (hk : k p xs) : lstAt μ (.loc p) k := ⟨xs, h, hk⟩
theorem dP_i {ev : EvE} {ρ : Ro} {k : DK} (h : ev ρ μ = some d) (hk : k d μ) : dP ev ρ μ k := ⟨d, h, hk⟩
theorem dPA_i {ev : EvA} {ρ : Ro} {k : List D → Mu → Prop} {ds : List D} (h : ev ρ μ = some ds) (hk : k ds μ) : dPA ev ρ μ k := ⟨ds, h, hk⟩
theorem dPT_t {ev : EvT} {ρ : Ro} {k : Bool → Mu → Prop} (h : ev ρ μ = some true) (hk : k true μ) : dPT ev ρ μ k := ⟨_, h, hk⟩
theorem sIf_t {ev : EvT} {u w : DS} {E : DEnds} {ρ : Ro} (h : ev ρ μ = some true) (hk : u E ρ μ) : sIf (dPT ev) u w E ρ μ := ⟨true, h, by
  show (if (true : Bool) = true then u E ρ μ else w E ρ μ)
  rw [if_pos rfl]
  exact hk⟩
theorem sIf_f {ev : EvT} {u w : DS} {E : DEnds} {ρ : Ro} (h : ev ρ μ = some false) (hk : w E ρ μ) : sIf (dPT ev) u w E ρ μ := ⟨false, h, by
  show (if (false : Bool) = true then u E ρ μ else w E ρ μ)
  rw [if_neg Bool.false_ne_true]
  exact hk⟩
end
/-- new empty lists, one for each item -/
theorem lc_new {i : Nat} {ρ' : Ro} {k : List D → Mu → Prop} : ∀ (ds acc : List D) (μ : Mu), acc.length + ds.length ≤ 100000 →
    (∀ (qs : List Addr) (μ' : Mu), qs.length = ds.length → Ext μ μ' → (∀ q ∈ qs, μ q = none ∧ μ' q = some (.lst [])) → qs.Nodup → k (acc ++ qs.map .loc) μ') → lcL (dgName i) dYes (dLstM (dPA eNil)) (fun _ => True) ρ' ds acc μ k
  | [], acc, μ, _, h => ⟨trivial, by
      have := h [] μ rfl (Ext.refl μ) (fun _ h => by simp at h) List.nodup_nil
      rwa [List.map_nil, List.append_nil] at this⟩
  | x :: r, acc, μ, hl, h => by
    rw [List.length_cons] at hl
    refine ⟨trivial, by omega, ?_⟩
    show (if (true : Bool) = true then dLstM (dPA eNil) (setS ρ' i (some x)) μ (fun y μ3 => lcL (dgName i) dYes (dLstM (dPA eNil)) (fun _ => True) ρ' r (acc ++ [y]) μ3 k) else lcL (dgName i) dYes (dLstM (dPA eNil)) (fun _ => True) ρ' r acc μ k)
    rw [if_pos rfl]
    refine ⟨[], rfl, Nat.zero_le _, fun p hp => ?_⟩
    refine lc_new r _ _ (by rw [List.length_append, List.length_singleton]; omega) fun qs μ' h1 h2 h3 h4 => ?_
    have e : acc ++ [D.loc p] ++ qs.map .loc = acc ++ (p :: qs).map .loc := by
      rw [List.map_cons, List.append_assoc]
      rfl
    rw [e]
    have hpq : p ∉ qs := fun hm => by
      have := (h3 p hm).1
      rw [updM_same] at this
      cases this
    refine h (p :: qs) μ' (by rw [List.length_cons, List.length_cons, h1]) ((Ext.new (Ext.refl μ) hp).trans h2) (fun q hq => ?_) (List.nodup_cons.mpr ⟨hpq, h4⟩)
    rcases List.mem_cons.mp hq with e | hm
    · subst e
      exact ⟨hp, h2 _ _ updM_same⟩
    · have h5 := h3 q hm
      have hne : q ≠ p := fun z => hpq (z ▸ hm)
      rw [updM_ne hne] at h5
      exact h5
end DL
end

section
set_option maxRecDepth 100000
/-! DLU: a list is taken apart, purely. -/
namespace DL
open PySem PySem.Spec PyProof.Rows L2
def egUnl (n : Nat) (gs : EvGs) (x : D) (ρ : Ro) (μ : Mu) : Option Ro := (itemsL μ x).bind fun xs => if xs.length = n then gs xs ρ μ else none
section
variable {X : Cx} {A : Amb} {e tg : Expr} {es : List Expr} {pos : Pos}
theorem pgv_unl {gs : EvGs} {ws : List Nat} {k n : _} (hc : X.calm = true) (h : PGsV X A es gs ws)
    (hn : (assignEach es X.env).length = n := by rfl) (hst : (assignEach es X.env).findIdx? (·.1) = none := by rfl) : PGV X A (.Tuple es k pos) (egUnl n gs) ws := (pgd_unl hc h hn hst).imp fun x ρ μ k h => by
  obtain ⟨ρ', h1, h2⟩ := h
  unfold egUnl at h1
  cases h3 : itemsL μ x with
  | none => rw [h3] at h1; cases h1
  | some xs =>
    rw [h3] at h1
    simp only [Option.bind_some] at h1
    split at h1
    · next hl => exact ⟨xs, h3, hl, ρ', h1, h2⟩
    · cases h1
end
end DL
end

section
set_option maxRecDepth 100000
/-! DLH: from the head's facts to promises by data; a law's end where nothing is being shown. -/
namespace DL
open PySem PySem.Spec PyProof.Rows L2
section
variable {P : Program} {w : World} {K : PySem.W.Frag} {mg : Str → Option Value} {base : Heap}
abbrev FnP (K : PySem.W.Frag) (x q : Str) (st : Stmt) (f : Addr) (fd : FuncData) : Prop := FunD K x q (defArgs st) (defBody st) (defScope st) [] [] f fd
theorem fun_of {x q : Str} {st : Stmt} {f : Addr} {fd : FuncData} (F : FnP K x q st f fd) : Fun K x q st f fd := by
  obtain ⟨oc, od, dV, kV, doc, pm, an, cdv, ct, osl, e, lk, hcd, hD, _⟩ := F.ex
  rcases hD with ⟨_, z⟩ | ⟨z, _⟩
  · subst z
    exact ⟨⟨oc, od, kV, doc, pm, an, cdv, ct, osl, e, lk, hcd⟩, F.kp⟩
  · exact absurd rfl z
variable {x q : Str} {st : Stmt} {f C : Addr} {fd : FuncData} {N ps : List Str} {k : Nat} {S : DC}
/-- what the walk gives, what the mathematics gives -/
def WkB (P : Program) (w : World) (K : PySem.W.Frag) (mg : Str → Option Value) (base : Heap) (N : List Str) (q : Str) (st : Stmt) (k : Nat) (f : Addr) (body : DS) : Prop :=
  ∀ (cdv : Value) (A : Around) (outer : List Env) (s : Shared) (H : Hp) (E : XK), Room k (A.deeper (envOfC q (defScope st) s.heap.objs.size f cdv)) →
    PSsD (cxOf CX0 P w K mg base N q (defScope st) f cdv A outer s H E).nox Amb.none (defBody st) body
def WkG (P : Program) (w : World) (K : PySem.W.Frag) (mg : Str → Option Value) (base : Heap) (N : List Str) (q : Str) (st : Stmt) (k : Nat) (f : Addr) (body : DS) : Prop :=
  ∀ (cdv : Value) (A : Around) (outer : List Env) (s : Shared) (H : Hp) (E : XK), Room k (A.deeper (envOfC q (defScope st) s.heap.objs.size f cdv)) → A.guards = some [] →
    PSsD (cxOf CX0 P w K mg base N q (defScope st) f cdv A outer s H E).nox Amb.none (defBody st) body
def Sem (N : List Str) (body : DS) (S : DC) : Prop := ∀ ds μ kont, S ds μ kont → body { nx := fun _ μ' => GhV kont .non μ', rt := GhV kont } (startD N ds) μ
theorem B_of {body : DS} (F : FnP K x q st f fd) (Sc : FnScope N ps (defScope st)) (hb : WkB P w K mg base N q st k f body) (sem : Sem N body S) (hm : mg x = some (.ref f)) (bd : Binds K fd ps []) : FnB P w K mg base (k + 1) x [] ps.length S :=
  ⟨f, fd, ps, [], [], ok_fn (fun_of F) Sc body hb fun ds μ kont _ h => sem ds μ kont h, hm, F.kp, bd, .nil, fun _ => .nil⟩
theorem BG_of {body : DS} (F : FnP K x q st f fd) (Sc : FnScope N ps (defScope st)) (hb : WkG P w K mg base N q st k f body) (sem : Sem N body S) (hm : mg x = some (.ref f)) (bd : Binds K fd ps []) : FnBG P w K mg base (k + 1) x [] ps.length S :=
  ⟨f, fd, ps, [], [], ok_fnG (fun_of F) Sc body hb fun ds μ kont _ h => sem ds μ kont h, hm, F.kp, bd, .nil, fun _ => .nil⟩
theorem M_of {body : DS} (F : FnP K x q st f fd) (Sc : FnScope N ps (defScope st)) (hb : WkB P w K mg base N q st k f body) (sem : Sem N body S) (hm : Meth K C x f) (bd : Binds K fd ps []) : MtB P w K mg base (k + 1) C x ps.length S :=
  ⟨f, fd, ps, ok_fn (fun_of F) Sc body hb fun ds μ kont _ h => sem ds μ kont h, hm, bd⟩
theorem MK_of {body : DS} {ks : List Str} (F : FnP K x q st f fd) (Sc : FnScope N ps (defScope st)) (hb : WkB P w K mg base N q st k f body) (sem : Sem N body S) (hm : Meth K C x f) (bd : KBn K fd ps 1 ks (fun us ws => us ++ ws) (fun vs zs => vs ++ zs)) : MtKB P w K mg base (k + 1) C x ks ps.length S :=
  ⟨f, fd, ps, ok_fn (fun_of F) Sc body hb fun ds μ kont _ h => sem ds μ kont h, hm, bd⟩
theorem I_of {body : DS} {c : Str} (F : FnP K x q st f fd) (Sc : FnScope N ps (defScope st)) (hb : WkB P w K mg base N q st k f body) (sem : Sem N body S) (hm : Mk K C f) (hc : mg c = some (.ref C)) (bd : Binds K fd ps []) : MkB P w K mg base (k + 1) C c ps.length S :=
  ⟨f, fd, ps, ok_fn (fun_of F) Sc body hb fun ds μ kont _ h => sem ds μ kont h, hm, hc, bd⟩
theorem IK_of {body : DS} {c : Str} {ks : List Str} (F : FnP K x q st f fd) (Sc : FnScope N ps (defScope st)) (hb : WkB P w K mg base N q st k f body) (sem : Sem N body S) (hm : Mk K C f) (hc : mg c = some (.ref C)) (bd : KBn K fd ps 1 ks (fun us ws => us ++ ws) (fun vs zs => vs ++ zs)) : MkKB P w K mg base (k + 1) C c ks ps.length S :=
  ⟨f, fd, ps, ok_fn (fun_of F) Sc body hb fun ds μ kont _ h => sem ds μ kont h, hm, hc, bd⟩
theorem kb_of {n : Nat} {ks : List Str} (F : FnP K x q st f fd)
    (h : ∀ (kV doc pm : Value) (an : Option Addr) (cdv ct : Value) (us ws : List Value), us.length = n → ws.length = ks.length → bindArgs (PySem.W.fnOf x q (defArgs st) (defBody st) (defScope st) .none kV doc pm an cdv ct) ⟨us, ks.zip ws⟩ = pure (ps.zip (us ++ ws))) : KBn K fd ps n ks (fun us ws => us ++ ws) (fun vs zs => vs ++ zs) := by
  obtain ⟨oc, od, dV, kV, doc, pm, an, cdv, ct, osl, rfl, lk, hcd, hD, _⟩ := F.ex
  rcases hD with ⟨_, z⟩ | ⟨z, _⟩
  · subst z
    exact ⟨fun s us ws _ l1 l2 => .of_eq (h kV doc pm an cdv ct us ws l1 l2), fun r1 r2 => r1.append r2⟩
  · exact absurd rfl z
/-- a promise that nobody can ask -/
theorem FnB.never (F : FnP K x q st f fd) (hm : mg x = some (.ref f)) (bd : Binds K fd ps []) : FnB P w K mg base 0 x [] ps.length (pN fun _ _ => none) :=
  ⟨f, fd, ps, [], [], ⟨fun vs H Q E h => dsp_len h, fun A outer s H args us vs Q E _ _ _ _ h => by
    obtain ⟨_, _, _, _, _, _, _, _, ⟨d, z, _⟩, _⟩ := h
    cases z⟩, hm, F.kp, bd, .nil, fun _ => .nil⟩
theorem gl_int {h : Heap} {i : Int} (X : K.In h) (G : h.Ns mainGlobals mg) (c : (He.Fa.int x i).ok K = true) : GlB mg x (.int i) := by
  obtain ⟨t, e⟩ := He.int_ok X G c
  exact ⟨_, e, t, rfl⟩
theorem gl_str {h : Heap} {z : Str} (X : K.In h) (G : h.Ns mainGlobals mg) (c : (He.Fa.str x z).ok K = true) : GlB mg x (.str z) := by
  obtain ⟨t, e⟩ := He.str_ok X G c
  exact ⟨_, e, t, rfl⟩
end
/-! ### the end -/
/-- the heap of the call: the script alone, if it is no object of the module -/
structure EndH (P : Program) (w : World) (K : PySem.W.Frag) (s : Shared) (a : Addr) (ns : List Int) (H : Hp) : Prop where
  only : Only H
  seq : SqL K H a (ns.map V.int)
  ok : HOk P w H s.heap
  one : ∀ b, H b ≠ none → b = a
  out : H a ≠ none → K.lookup a = none
theorem end_heap {P : Program} {w : World} {K : PySem.W.Frag} {s : Shared} {a : Addr} {ns : List Int} {us : List Value} (X : K.In s.heap) (g : s.heap.get? a = some { cls := .type "list", data := .seq us.toArray })
    (i : IntsAre us ns) (l : ns.length ≤ sizeLine) : ∃ H, EndH P w K s a ns H := by
  have r := vals_ints i
  have ll := i.length
  cases q : K.lookup a with
  | some ob =>
    have e := X a ob q
    rw [g] at e
    cases e
    exact ⟨fun _ => none, fun _ => .inl rfl, .inr ⟨_, us.toArray, _, q, rfl, rfl, rfl, by rw [List.size_toArray, ll]; exact l, by simpa using r⟩, (fun b u z => by cases (show (none : Option HO) = some u from z)), fun b z => absurd rfl z, fun z => absurd rfl z⟩
  | none =>
    refine ⟨fun b => if b = a then some (.frz { cls := .type "list", data := .seq us.toArray } (.lst (ns.map V.int))) else none, fun b => ?_, .inl (.inr ⟨_, if_pos rfl⟩), fun b u z => ?_, fun b z => ?_, fun _ => q⟩
    · by_cases c : b = a
      · exact .inr ⟨_, _, if_pos c⟩
      · exact .inl (if_neg c)
    · by_cases c : b = a
      · have y := (if_pos c).symm.trans z
        cases y
        subst c
        exact ⟨g, by rw [List.length_map]; exact l, us, _, r, g⟩
      · cases (if_neg c).symm.trans z
    · exact Classical.byContradiction fun c => z (if_neg c)
theorem end_mod {P : Program} {w : World} {K : PySem.W.Frag} {mg mb : Str → Option Value} {s : Shared} {a : Addr} {ns : List Int} {us : List Value} {H : Hp} (X : K.In s.heap) (N : s.heap.Ns mainGlobals mg) (B : s.heap.Ns builtinsNs mb) (bb : ∀ z : Str, z ≠ "__name__" → mb z = bootBuiltins z) (nl : s.heap.NoLimit)
    (g : s.heap.get? a = some { cls := .type "list", data := .seq us.toArray }) (h : EndH P w K s a ns H) : Mod K mg (hidT s.heap H) := by
  have free : ∀ {b : Addr} {o : Obj} {es : Array DictEntry} {ep : Nat}, s.heap.get? b = some o → o.data = .dict es ep → H b = none := fun {b o es ep} e d => by
    refine Classical.byContradiction fun c => ?_
    have z := h.one b c
    subst z
    rw [g] at e
    cases e
    exact nomatch (show Data.seq us.toArray _ = Data.dict es ep from d)
  have up : ∀ {b : Addr} {m : Str → Option Value}, s.heap.Ns b m → (hidT s.heap H).Ns b m := fun ⟨o, es, ep, e, d, r⟩ => ⟨o, es, ep, hidT_get e (free e d), d, r⟩
  refine ⟨fun b o e => hidT_get (X b o e) (Classical.byContradiction fun c => ?_), up N, ⟨mb, up B, bb⟩, let ⟨mc, h1, h2⟩ := nl; ⟨mc, up h1, h2⟩⟩
  have z := h.one b c
  subst z
  rw [h.out c] at e
  cases e
/-- a law's call, where its def may be called while nothing is being shown -/
theorem call_G {P : Program} {w : World} {K : PySem.W.Frag} {mg mb : Str → Option Value} {k : Nat} {fa a : Addr} {fd : FuncData} {x : Str} {sp : Sp} {s : Shared} {us : List Value} {ns : List Int} (X : K.In s.heap) (N : s.heap.Ns mainGlobals mg) (B : s.heap.Ns builtinsNs mb)
    (bb : ∀ z : Str, z ≠ "__name__" → mb z = bootBuiltins z) (nl : s.heap.NoLimit) (ng : s.gens = #[]) (g : s.heap.get? a = some { cls := .type "list", data := .seq us.toArray }) (i : IntsAre us ns) (l : ns.length ≤ sizeLine) (hr : Room k callerA)
    (F : ∀ base : Heap, K.In base → base.Ns mainGlobals mg → FnG P w K mg base k fa fd [x] sp) (bd : ∀ (s : Shared) (u : Value), BindsTo s fd ⟨[u], []⟩ [(x, u)]) (hsp : ∀ H : Hp, Only H → SqL K H a (ns.map V.int) → sp [.ref a] H (fun v _ => v = .bl true) fun _ _ _ => False) :
    codeAny (model P w) callerA (.call (.ref fa) ⟨[.ref a], []⟩) (fun r t => r = .ok (.ret (.bool true)) ∧ OldK s.heap t.heap ∧ t.os = s.os ∧ AllBare t.gens) s := by
  obtain ⟨H, h⟩ := end_heap (P := P) (w := w) X g i l
  have M := end_mod X N B bb nl g h
  have e0 : Env0 P w K mg (hidT s.heap H) callerA [] s H := ⟨rfl, M, fun b o e => of_hidT e, Nat.le_of_eq (hidT_size _ _), trivial, fun b hb => (by cases hb), h.ok, .of_eq ng⟩
  have e1 := (F _ M.kin M.glob).run callerA [] s H ⟨[.ref a], []⟩ [.ref a] [.ref a] _ _ hr rfl e0 (bd s (.ref a)) (.cons rfl .nil) (hsp H h.only h.seq)
  refine codeAny_mono e1 fun r t q => ?_
  cases r with
  | error z => exact q.elim
  | ok fl =>
    cases fl with
    | ret u =>
      obtain ⟨v, H', os, bare, un, ok', r', z⟩ := q
      cases (show v = .bl true from z)
      obtain rfl : u = Value.bool true := r'
      refine ⟨rfl, OldK.of_keep fun b o e => ?_, os, bare⟩
      rcases h.only b with c | ⟨ob, xs, c⟩
      · exact un.keep b o e c (fun z => by cases z) (by simp)
      · obtain ⟨h1, _⟩ := h.ok b _ c
        obtain ⟨h2, _⟩ := ok' b _ (un.frzs b ob _ c)
        rw [e] at h1
        cases h1
        exact h2
    | next => exact q.elim
    | brk => exact q.elim
    | cont => exact q.elim
theorem walk_G {l : PySem.W.OpenLaw} {n k : Nat} {q : Program} {loose : List Str} {XP : (Str → Option Value) → Heap → Prop} {YP : World → Heap → Prop} {d : DefRec} {x : Str} (hn : l.most = some n) (hn2 : n ≤ sizeLine) (hdf : d.params.defaults = []) (hr : Room k callerA)
    (F : ∀ (w : World) (mg : Str → Option Value) (fa : Addr) (h : Heap), YP w h → h.Ns mainGlobals mg → mg d.name = some (.ref fa) → ∃ (K : PySem.W.Frag) (fd : FuncData) (sp : Sp), K.In h ∧ (∀ (s : Shared) (u : Value), BindsTo s fd ⟨[u], []⟩ [(x, u)]) ∧
      (∀ (H : Hp) (a : Addr) (ns : List Int), ns.length ≤ n → Only H → SqL K H a (ns.map V.int) → sp [.ref a] H (fun v _ => v = .bl true) fun _ _ _ => False) ∧ ∀ base : Heap, K.In base → base.Ns mainGlobals mg → FnG l.prog w K mg base k fa fd [x] sp) :
    PySem.W.WalkO q loose XP YP l.row.toRowW d [] (fun f vs => PySem.call f vs) := by
  refine Att.attach_call hn hdf fun w _ s mg mb fa _ _ _ _ a us ns G Y _ _ _ hmg g i hl ng => ?_
  obtain ⟨K, fd, sp, X, bd, hsp, hF⟩ := F w mg fa _ Y G.T.g hmg
  exact call_G X G.T.g G.T.b G.T.builtins G.T.nolimit ng g i (Nat.le_trans hl hn2) hr hF bd fun H hO hS => hsp H a ns hl hO hS
end DL
end

section
/-! M60: walks and least lengths. -/
namespace Wl

abbrev Edge := Nat × Nat × Int
inductive Wk (E : List Edge) (s : Nat) : Nat → Int → Prop
  | nil : Wk E s s 0
  | snoc {u v : Nat} {w l : Int} : Wk E s u w → (u, v, l) ∈ E → Wk E s v (w + l)
def Wf (n : Nat) (E : List Edge) : Prop := ∀ u v l, (u, v, l) ∈ E → u < n ∧ v < n ∧ 0 ≤ l
def IsD (E : List Edge) (s t : Nat) : Option Int → Prop
  | none => ∀ w, ¬ Wk E s t w
  | some d => Wk E s t d ∧ ∀ w, Wk E s t w → d ≤ w
theorem IsD.inj {E : List Edge} {s t : Nat} : ∀ {o o' : Option Int}, IsD E s t o → IsD E s t o' → o = o'
  | none, none, _, _ => rfl
  | none, some d, h, h' => absurd h'.1 (h d)
  | some d, none, h, h' => absurd h.1 (h' d)
  | some d, some d', h, h' => by rw [Int.le_antisymm (h.2 _ h'.1) (h'.2 _ h.1)]
theorem Wk.nonneg {n : Nat} {E : List Edge} (wf : Wf n E) {s t : Nat} {w : Int} (h : Wk E s t w) : 0 ≤ w := by
  induction h with
  | nil => exact Int.le_refl 0
  | snoc _ he ih =>
    have := (wf _ _ _ he).2.2
    omega
theorem Wk.lt {n : Nat} {E : List Edge} (wf : Wf n E) {s t : Nat} {w : Int} (hs : s < n) (h : Wk E s t w) : t < n := by
  cases h with
  | nil => exact hs
  | snoc _ he => exact (wf _ _ _ he).2.1
theorem Wk.trans {E : List Edge} {s u t : Nat} {w w' : Int} (h : Wk E s u w) (h' : Wk E u t w') : Wk E s t (w + w') := by
  induction h' with
  | nil =>
    rw [Int.add_zero]
    exact h
  | snoc _ he ih =>
    rw [← Int.add_assoc]
    exact .snoc ih he
theorem Wk.mono {E E' : List Edge} (hs : ∀ e, e ∈ E → e ∈ E') {s t : Nat} {w : Int} (h : Wk E s t w) : Wk E' s t w := by
  induction h with
  | nil => exact .nil
  | snoc _ he ih => exact .snoc ih (hs _ he)
theorem Wk.edge {E : List Edge} {u v : Nat} {l : Int} (h : (u, v, l) ∈ E) : Wk E u v l := by
  have := Wk.snoc (Wk.nil (E := E) (s := u)) h
  rwa [Int.zero_add] at this
/-- least lengths from walks that are not beaten -/
def Low (E : List Edge) (s t : Nat) (o : Option Int) : Prop := ∀ w, Wk E s t w → ∃ d, o = some d ∧ d ≤ w
theorem IsD.of {E : List Edge} {s t : Nat} {o : Option Int} (h1 : ∀ d, o = some d → Wk E s t d) (h2 : Low E s t o) : IsD E s t o := by
  cases o with
  | none =>
    intro w hw
    obtain ⟨d, h, _⟩ := h2 w hw
    cases h
  | some d =>
    refine ⟨h1 d rfl, fun w hw => ?_⟩
    obtain ⟨d', h, hle⟩ := h2 w hw
    cases h
    exact hle
theorem IsD.low {E : List Edge} {s t : Nat} {o : Option Int} (h : IsD E s t o) : Low E s t o := fun w hw => by
  cases o with
  | none => exact absurd hw (h w)
  | some d => exact ⟨d, rfl, h.2 w hw⟩
theorem IsD.wk {E : List Edge} {s t : Nat} {d : Int} (h : IsD E s t (some d)) : Wk E s t d := h.1

/-! ### Some, none, sums, the less -/
def addO : Option Int → Option Int → Option Int
  | some a, some b => some (a + b)
  | _, _ => none
/-- less, none is beyond all -/
def ltO : Option Int → Option Int → Bool
  | none, _ => false
  | some _, none => true
  | some a, some b => decide (a < b)
def leastO (a b : Option Int) : Option Int := if ltO a b = true then a else b

/-! ### few steps suffice: walks by the number of ties -/
inductive Wn (E : List Edge) (s : Nat) : Nat → Nat → Int → Prop
  | nil : Wn E s 0 s 0
  | snoc {k u v : Nat} {w l : Int} : Wn E s k u w → (u, v, l) ∈ E → Wn E s (k + 1) v (w + l)
theorem Wn.wk {E : List Edge} {s k t : Nat} {w : Int} (h : Wn E s k t w) : Wk E s t w := by
  induction h with
  | nil => exact .nil
  | snoc _ he ih => exact .snoc ih he
theorem Wk.wn {E : List Edge} {s t : Nat} {w : Int} (h : Wk E s t w) : ∃ k, Wn E s k t w := by
  induction h with
  | nil => exact ⟨0, .nil⟩
  | snoc _ he ih =>
    obtain ⟨k, hk⟩ := ih
    exact ⟨k + 1, .snoc hk he⟩

/-! ### one more tie -/
theorem split_edge {n : Nat} {E : List Edge} {a b : Nat} {l : Int} (hl : 0 ≤ l) (wf : Wf n E) {s t : Nat} {w : Int} (h : Wk ((a, b, l) :: E) s t w) :
    (∃ w1, Wk E s t w1 ∧ w1 ≤ w) ∨ ∃ w1 w2, Wk E s a w1 ∧ Wk E b t w2 ∧ w1 + l + w2 ≤ w := by
  induction h with
  | nil => exact .inl ⟨0, .nil, Int.le_refl _⟩
  | @snoc u v w m hw he ih =>
    rcases List.mem_cons.mp he with e | he
    · cases e
      rcases ih with ⟨w1, h1, h2⟩ | ⟨w1, w2, h1, h2, h3⟩
      · exact .inr ⟨w1, 0, h1, .nil, by omega⟩
      · have := h2.nonneg wf
        exact .inr ⟨w1, 0, h1, .nil, by omega⟩
    · rcases ih with ⟨w1, h1, h2⟩ | ⟨w1, w2, h1, h2, h3⟩
      · exact .inl ⟨w1 + m, .snoc h1 he, by omega⟩
      · exact .inr ⟨w1, w2 + m, h1, .snoc h2 he, by omega⟩
theorem Wf.cons {n : Nat} {E : List Edge} {a b : Nat} {l : Int} (wf : Wf n E) (ha : a < n) (hb : b < n) (hl : 0 ≤ l) : Wf n ((a, b, l) :: E) := fun u v m h => by
  rcases List.mem_cons.mp h with e | h
  · cases e
    exact ⟨ha, hb, hl⟩
  · exact wf _ _ _ h
theorem sub_cons {E : List Edge} {e : Edge} : ∀ x, x ∈ E → x ∈ e :: E := fun _ h => List.mem_cons_of_mem _ h
/-- the least length with one more tie -/
theorem IsD.add {n : Nat} {E : List Edge} {a b : Nat} {l : Int} (hl : 0 ≤ l) (wf : Wf n E) {s t : Nat} {x y z : Option Int} (hx : IsD E s t x) (hy : IsD E s a y) (hz : IsD E b t z) :
    IsD ((a, b, l) :: E) s t (leastO x (addO (addO y (some l)) z)) := by
  have mono : ∀ {u v : Nat} {w : Int}, Wk E u v w → Wk ((a, b, l) :: E) u v w := fun h => h.mono sub_cons
  have mid : ∀ {w1 w2 : Int}, Wk E s a w1 → Wk E b t w2 → Wk ((a, b, l) :: E) s t (w1 + l + w2) := fun h1 h2 => (Wk.snoc (mono h1) List.mem_cons_self).trans (mono h2)
  refine IsD.of (fun d hd => ?_) fun w hw => ?_
  · unfold leastO at hd
    split at hd
    · subst hd
      exact mono hx.1
    · cases y with
      | none => cases hd
      | some y =>
        cases z with
        | none => cases hd
        | some z =>
          cases hd
          exact mid hy.1 hz.1
  · rcases split_edge hl wf hw with ⟨w1, h1, h2⟩ | ⟨w1, w2, h1, h2, h3⟩
    · obtain ⟨d, rfl, hd⟩ := hx.low w1 h1
      unfold leastO
      split
      · exact ⟨d, rfl, Int.le_trans hd h2⟩
      · next hlt =>
        cases y with
        | none => exact absurd rfl hlt
        | some y =>
          cases z with
          | none => exact absurd rfl hlt
          | some z =>
            have h4 : ¬ (d < y + l + z) := fun q => hlt (decide_eq_true q)
            exact ⟨_, rfl, by omega⟩
    · obtain ⟨y', rfl, hy'⟩ := hy.low w1 h1
      obtain ⟨z', rfl, hz'⟩ := hz.low w2 h2
      unfold leastO
      split
      · next hlt =>
        cases x with
        | none => cases hlt
        | some d =>
          have h4 : d < y' + l + z' := of_decide_eq_true hlt
          exact ⟨d, rfl, by omega⟩
      · exact ⟨_, rfl, by omega⟩
/-- the same walks -/
theorem IsD.congr {E E' : List Edge} (h : ∀ e, e ∈ E ↔ e ∈ E') {s t : Nat} {o : Option Int} (d : IsD E s t o) : IsD E' s t o := by
  cases o with
  | none => exact fun w hw => d w (hw.mono fun e he => (h e).mpr he)
  | some x => exact ⟨d.1.mono fun e he => (h e).mp he, fun w hw => d.2 w (hw.mono fun e he => (h e).mpr he)⟩
theorem beside_key {E : List Edge} {a b : Nat} {l m : Int} (hm : l ≤ m) {s t : Nat} {w : Int} (h : Wk ((a, b, l) :: (a, b, m) :: E) s t w) : ∃ w', Wk ((a, b, l) :: E) s t w' ∧ w' ≤ w := by
  induction h with
  | nil => exact ⟨0, .nil, Int.le_refl _⟩
  | @snoc u v w k hw he ih =>
    obtain ⟨w', h1, h2⟩ := ih
    rcases List.mem_cons.mp he with e | he
    · cases e
      exact ⟨w' + l, .snoc h1 List.mem_cons_self, by omega⟩
    · rcases List.mem_cons.mp he with e | he
      · cases e
        exact ⟨w' + l, .snoc h1 List.mem_cons_self, by omega⟩
      · exact ⟨w' + k, .snoc h1 (List.mem_cons_of_mem _ he), by omega⟩
/-- a tie beside a shorter one -/
theorem IsD.beside {E : List Edge} {a b : Nat} {l m : Int} (hm : l ≤ m) {s t : Nat} {o : Option Int} (d : IsD ((a, b, l) :: E) s t o) : IsD ((a, b, l) :: (a, b, m) :: E) s t o := by
  refine IsD.of (fun x hx => ?_) fun w hw => ?_
  · subst hx
    refine d.1.mono fun e he => ?_
    rcases List.mem_cons.mp he with q | he
    · rw [q]
      exact List.mem_cons_self
    · exact List.mem_cons_of_mem _ (List.mem_cons_of_mem _ he)
  · obtain ⟨w', h1, h2⟩ := beside_key hm hw
    obtain ⟨x, hx, hle⟩ := d.low w' h1
    exact ⟨x, hx, Int.le_trans hle h2⟩
/-! ### least lengths exist -/
open Classical in
noncomputable def dist (E : List Edge) (s t : Nat) : Option Int := if h : ∃ o, IsD E s t o then Classical.choose h else none
theorem dist_eq {E : List Edge} {s t : Nat} {o : Option Int} (h : IsD E s t o) : dist E s t = o := by
  have hx : ∃ o, IsD E s t o := ⟨o, h⟩
  unfold dist
  rw [dif_pos hx]
  exact (Classical.choose_spec hx).inj h
theorem least_nat (P : Nat → Prop) : ∀ n, P n → ∃ m, P m ∧ ∀ k, P k → m ≤ k := by
  intro n
  induction n using Nat.strongRecOn with
  | _ n ih =>
    intro hn
    by_cases h : ∃ k, k < n ∧ P k
    · obtain ⟨k, h1, h2⟩ := h
      exact ih k h1 h2
    · exact ⟨n, hn, fun k hk => Nat.le_of_not_lt fun q => h ⟨k, q, hk⟩⟩
theorem isD_dist {n : Nat} {E : List Edge} (wf : Wf n E) (s t : Nat) : IsD E s t (dist E s t) := by
  have hx : ∃ o, IsD E s t o := by
    by_cases h : ∃ w, Wk E s t w
    · obtain ⟨w, hw⟩ := h
      have h0 := hw.nonneg wf
      obtain ⟨m, h1, h2⟩ := least_nat (fun k => Wk E s t (k : Int)) w.toNat (by rw [Int.toNat_of_nonneg h0]; exact hw)
      refine ⟨some m, h1, fun w' hw' => ?_⟩
      have h3 := hw'.nonneg wf
      have := h2 w'.toNat (by rw [Int.toNat_of_nonneg h3]; exact hw')
      omega
    · exact ⟨none, fun w hw => h ⟨w, hw⟩⟩
  unfold dist
  rw [dif_pos hx]
  exact Classical.choose_spec hx
/-- a row, the table -/
noncomputable def rowOf (n : Nat) (E : List Edge) (s : Nat) : List (Option Int) := (List.range n).map (dist E s)
noncomputable def tab (n : Nat) (E : List Edge) : List (List (Option Int)) := (List.range n).map (rowOf n E)
theorem rowOf_len (n : Nat) (E : List Edge) (s : Nat) : (rowOf n E s).length = n := by
  unfold rowOf
  rw [List.length_map, List.length_range]
theorem rowOf_get {n : Nat} {E : List Edge} {s t : Nat} (h : t < n) : (rowOf n E s)[t]? = some (dist E s t) := by
  unfold rowOf
  rw [List.getElem?_map, List.getElem?_range h]
  rfl
theorem tab_len (n : Nat) (E : List Edge) : (tab n E).length = n := by
  unfold tab
  rw [List.length_map, List.length_range]
theorem tab_get {n : Nat} {E : List Edge} {s : Nat} (h : s < n) : (tab n E)[s]? = some (rowOf n E s) := by
  unfold tab
  rw [List.getElem?_map, List.getElem?_range h]
  rfl
theorem rowOf_eq {n : Nat} {E : List Edge} {s : Nat} {r : List (Option Int)} (hl : r.length = n) (h : ∀ t o, r[t]? = some o → IsD E s t o) : r = rowOf n E s := by
  apply List.ext_getElem?
  intro t
  by_cases ht : t < n
  · rw [rowOf_get ht, List.getElem?_eq_getElem (by omega)]
    rw [dist_eq (h t _ (List.getElem?_eq_getElem (by omega)))]
  · rw [List.getElem?_eq_none (by omega), List.getElem?_eq_none (by rw [rowOf_len]; omega)]
theorem dist_congr {n : Nat} {E E' : List Edge} (wf : Wf n E) (h : ∀ s t o, IsD E s t o → IsD E' s t o) (s t : Nat) : dist E' s t = dist E s t := dist_eq (h s t _ (isD_dist wf s t))
theorem row_congr {n : Nat} {E E' : List Edge} (h : ∀ s t, dist E' s t = dist E s t) (s : Nat) : rowOf n E' s = rowOf n E s := by
  unfold rowOf
  exact congrArg (fun f => (List.range n).map f) (funext fun t => h s t)
theorem tab_congr {n : Nat} {E E' : List Edge} (h : ∀ s t, dist E' s t = dist E s t) : tab n E' = tab n E := by
  unfold tab
  exact congrArg (fun f => (List.range n).map f) (funext fun s => row_congr h s)
theorem dist_self {n : Nat} {E : List Edge} (wf : Wf n E) (s : Nat) : dist E s s = some 0 := by
  refine dist_eq ⟨.nil, fun w hw => hw.nonneg wf⟩
theorem dist_add {n : Nat} {E : List Edge} {a b : Nat} {l : Int} (wf : Wf n E) (hl : 0 ≤ l) (s t : Nat) : dist ((a, b, l) :: E) s t = leastO (dist E s t) (addO (addO (dist E s a) (some l)) (dist E b t)) :=
  dist_eq (IsD.add hl wf (isD_dist wf s t) (isD_dist wf s a) (isD_dist wf b t))
end Wl
end

section
/-! M61: the search by nearest places. -/
namespace Wl
/-- f: what is found; a: the places that wait -/
structure Dj (n : Nat) (E : List Edge) (s : Nat) (a : List Int) (f : List (Option Int)) : Prop where
  len : f.length = n
  s0 : f[s]? = some (some 0)
  wk : ∀ (v : Nat) (d : Int), f[v]? = some (some d) → Wk E s v d
  rel : ∀ u : Nat, u < n → (u : Int) ∉ a → ∃ du : Int, f[u]? = some (some du) ∧ ∀ (v : Nat) (l : Int), (u, v, l) ∈ E → ∃ dv, f[v]? = some (some dv) ∧ dv ≤ du + l
  ord : ∀ (u v : Nat) (du dv : Int), u < n → (u : Int) ∉ a → (v : Int) ∈ a → f[u]? = some (some du) → f[v]? = some (some dv) → du ≤ dv
theorem Dj.fin {n : Nat} {E : List Edge} (wf : Wf n E) {s : Nat} (hs : s < n) {a : List Int} {f : List (Option Int)} (h : Dj n E s a f) (hw : ∀ v : Nat, (v : Int) ∈ a → v < n → f[v]? = some none) : f = rowOf n E s := by
  refine rowOf_eq h.len fun t o ht => IsD.of (fun d hd => h.wk t d (by rw [ht, hd])) fun w hwk => ?_
  have key : ∀ v w, Wk E s v w → ∃ d, f[v]? = some (some d) ∧ d ≤ w := fun v w hvw => by
    induction hvw with
    | nil => exact ⟨0, h.s0, Int.le_refl _⟩
    | @snoc u v w l hu he ih =>
      obtain ⟨du, h1, h2⟩ := ih
      have hun : u < n := (wf _ _ _ he).1
      have hua : (u : Int) ∉ a := fun hm => by
        rw [hw u hm hun] at h1
        cases h1
      obtain ⟨du', h3, h4⟩ := h.rel u hun hua
      rw [h1] at h3
      cases h3
      obtain ⟨dv, h5, h6⟩ := h4 v l he
      exact ⟨dv, h5, by omega⟩
  obtain ⟨d, h1, h2⟩ := key t w hwk
  rw [ht] at h1
  cases h1
  exact ⟨d, rfl, h2⟩
/-- while the ties from h are gone through: f0 at the start, P those behind us -/
structure Dr (n : Nat) (E : List Edge) (s h : Nat) (dh : Int) (f0 f : List (Option Int)) (P : Nat → Int → Prop) : Prop where
  len : f.length = n
  wk : ∀ (v : Nat) (d : Int), f[v]? = some (some d) → Wk E s v d
  le : ∀ (v : Nat) (d : Int), f0[v]? = some (some d) → ∃ d' : Int, f[v]? = some (some d') ∧ d' ≤ d
  keep : ∀ (v : Nat) (d : Int), f0[v]? = some (some d) → d ≤ dh → f[v]? = some (some d)
  ge : ∀ (v : Nat) (d : Int), f[v]? = some (some d) → f0[v]? = some (some d) ∨ dh ≤ d
  did : ∀ (v : Nat) (l : Int), P v l → ∃ d, f[v]? = some (some d) ∧ d ≤ dh + l
theorem Dr.turn {n : Nat} {E : List Edge} (wf : Wf n E) {s h : Nat} {dh : Int} {f0 f : List (Option Int)} {P : Nat → Int → Prop} (d : Dr n E s h dh f0 f P) (hh : Wk E s h dh) {v : Nat} {l : Int} (he : (h, v, l) ∈ E)
    (hlt : ltO (some (dh + l)) (f[v]?.getD none) = true) : Dr n E s h dh f0 (f.set v (some (dh + l))) (fun v' l' => P v' l' ∨ (v' = v ∧ l' = l)) := by
  obtain ⟨w1, w2, w3⟩ := wf _ _ _ he
  have hvl : v < f.length := by rw [d.len]; exact w2
  have old : ∀ x, f[v]? = some (some x) → dh + l < x := fun x hx => by
    rw [hx] at hlt
    exact of_decide_eq_true hlt
  refine ⟨by rw [List.length_set, d.len], fun u x hx => ?_, fun u x hx => ?_, fun u x hx hle => ?_, fun u x hx => ?_, fun u m hP => ?_⟩
  · by_cases hu : u = v
    · subst hu
      rw [List.getElem?_set_self hvl] at hx
      cases hx
      exact .snoc hh he
    · rw [List.getElem?_set_ne (Ne.symm hu)] at hx
      exact d.wk u x hx
  · obtain ⟨x', h1, h2⟩ := d.le u x hx
    by_cases hu : u = v
    · subst hu
      have := old x' h1
      exact ⟨dh + l, List.getElem?_set_self hvl, by omega⟩
    · rw [List.getElem?_set_ne (Ne.symm hu)]
      exact ⟨x', h1, h2⟩
  · have h1 := d.keep u x hx hle
    by_cases hu : u = v
    · subst hu
      have := old x h1
      omega
    · rw [List.getElem?_set_ne (Ne.symm hu)]
      exact h1
  · by_cases hu : u = v
    · subst hu
      rw [List.getElem?_set_self hvl] at hx
      cases hx
      exact .inr (by omega)
    · rw [List.getElem?_set_ne (Ne.symm hu)] at hx
      exact d.ge u x hx
  · by_cases hu : u = v
    · subst hu
      refine ⟨dh + l, List.getElem?_set_self hvl, ?_⟩
      rcases hP with hP | ⟨_, e⟩
      · obtain ⟨x, h1, h2⟩ := d.did u m hP
        have := old x h1
        omega
      · omega
    · rcases hP with hP | ⟨e, _⟩
      · rw [List.getElem?_set_ne (Ne.symm hu)]
        exact d.did u m hP
      · exact absurd e hu
theorem Dr.skip {n : Nat} {E : List Edge} (wf : Wf n E) {s h : Nat} {dh : Int} {f0 f : List (Option Int)} {P : Nat → Int → Prop} (d : Dr n E s h dh f0 f P) {v : Nat} {l : Int} (he : (h, v, l) ∈ E)
    (hlt : ltO (some (dh + l)) (f[v]?.getD none) = false) : Dr n E s h dh f0 f (fun v' l' => P v' l' ∨ (v' = v ∧ l' = l)) := by
  obtain ⟨w1, w2, w3⟩ := wf _ _ _ he
  have hvl : v < f.length := by rw [d.len]; exact w2
  refine ⟨d.len, d.wk, d.le, d.keep, d.ge, fun u m hP => ?_⟩
  rcases hP with hP | ⟨e1, e2⟩
  · exact d.did u m hP
  · subst e1
    rw [List.getElem?_eq_getElem hvl] at hlt ⊢
    cases hf : f[u] with
    | none => rw [hf] at hlt; cases hlt
    | some x =>
      rw [hf] at hlt
      have : ¬ (dh + l < x) := of_decide_eq_false hlt
      exact ⟨x, rfl, by omega⟩
/-- h is nearest, it waits no longer -/
theorem Dj.next {n : Nat} {E : List Edge} (wf : Wf n E) {s h : Nat} {dh : Int} {a : List Int} {f f' : List (Option Int)} (d : Dj n E s a f) (nd : a.Nodup) (ha : (h : Int) ∈ a) (hn : h < n) (hh : f[h]? = some (some dh))
    (hmin : ∀ v : Nat, (v : Int) ∈ a → v < n → ∀ dv, f[v]? = some (some dv) → dh ≤ dv) (hs : s < n) (r : Dr n E s h dh f f' (fun v l => (h, v, l) ∈ E)) : Dj n E s (a.erase (h : Int)) f' := by
  have wkh : Wk E s h dh := d.wk h dh hh
  have dh0 : 0 ≤ dh := wkh.nonneg wf
  have keep : ∀ u du, u < n → (u : Int) ∉ a → f[u]? = some (some du) → f'[u]? = some (some du) ∧ du ≤ dh := fun u du hu hua hf => by
    have := d.ord u h du dh hu hua ha hf hh
    exact ⟨r.keep u du hf this, this⟩
  have hh' : f'[h]? = some (some dh) := r.keep h dh hh (Int.le_refl _)
  have mem : ∀ u : Nat, (u : Int) ∉ a.erase (h : Int) → (u : Int) ∉ a ∨ u = h := fun u hu => by
    by_cases hu2 : u = h
    · exact .inr hu2
    · refine .inl fun hm => hu ((List.mem_erase_of_ne ?_).mpr hm)
      omega
  refine ⟨r.len, r.keep s 0 d.s0 dh0, r.wk, fun u hu hua => ?_, fun u v du dv hu hua hva hfu hfv => ?_⟩
  · rcases mem u hua with hua | rfl
    · obtain ⟨du, h1, h2⟩ := d.rel u hu hua
      refine ⟨du, (keep u du hu hua h1).1, fun v l he => ?_⟩
      obtain ⟨dv, h3, h4⟩ := h2 v l he
      obtain ⟨dv', h5, h6⟩ := r.le v dv h3
      exact ⟨dv', h5, by omega⟩
    · exact ⟨dh, hh', fun v l he => r.did v l he⟩
  · have hva2 : (v : Int) ∈ a := List.mem_of_mem_erase hva
    have hduh : du ≤ dh := by
      rcases mem u hua with hua | rfl
      · obtain ⟨du', h1, _⟩ := d.rel u hu hua
        obtain ⟨h2, h3⟩ := keep u du' hu hua h1
        rw [h2] at hfu
        cases hfu
        exact h3
      · rw [hh'] at hfu
        cases hfu
        exact Int.le_refl _
    have hvn : v < n := by
      have := (List.getElem?_eq_some_iff.mp hfv).1
      rw [r.len] at this
      exact this
    rcases r.ge v dv hfv with h1 | h1
    · have := hmin v hva2 hvn dv h1
      omega
    · omega
theorem Dr.start {n : Nat} {E : List Edge} {s h : Nat} {dh : Int} {f : List (Option Int)} (len : f.length = n) (wk : ∀ (v : Nat) (d : Int), f[v]? = some (some d) → Wk E s v d) : Dr n E s h dh f f (fun _ _ => False) :=
  ⟨len, wk, fun v d h => ⟨d, h, Int.le_refl _⟩, fun v d h _ => h, fun v d h => .inl h, fun _ _ h => h.elim⟩
theorem Dr.imp {n : Nat} {E : List Edge} {s h : Nat} {dh : Int} {f0 f : List (Option Int)} {P P' : Nat → Int → Prop} (d : Dr n E s h dh f0 f P) (i : ∀ v l, P' v l → P v l) : Dr n E s h dh f0 f P' :=
  ⟨d.len, d.wk, d.le, d.keep, d.ge, fun v l h => d.did v l (i v l h)⟩
theorem Dj.start {n : Nat} {E : List Edge} {s : Nat} (hs : s < n) {a : List Int} (ha : ∀ u : Nat, u < n → (u : Int) ∈ a) : Dj n E s a ((List.replicate n none).set s (some 0)) := by
  have get : ∀ v d, ((List.replicate n (none : Option Int)).set s (some 0))[v]? = some (some d) → v = s ∧ d = 0 := fun v d h => by
    by_cases hv : v = s
    · subst hv
      rw [List.getElem?_set_self (by rw [List.length_replicate]; exact hs)] at h
      cases h
      exact ⟨rfl, rfl⟩
    · rw [List.getElem?_set_ne (Ne.symm hv), List.getElem?_replicate] at h
      split at h <;> cases h
  refine ⟨by rw [List.length_set, List.length_replicate], List.getElem?_set_self (by rw [List.length_replicate]; exact hs), fun v d h => ?_, fun u hu hua => absurd (ha u hu) hua, fun u v du dv hu hua => absurd (ha u hu) hua⟩
  obtain ⟨rfl, rfl⟩ := get v d h
  exact .nil
end Wl
end

section
/-! M62: the search by rounds. -/
namespace Wl
theorem fin_rel {n : Nat} {E : List Edge} {s : Nat} {f : List (Option Int)} (len : f.length = n) (s0 : f[s]? = some (some 0)) (wk : ∀ (v : Nat) (d : Int), f[v]? = some (some d) → Wk E s v d)
    (rel : ∀ (u v : Nat) (l du : Int), (u, v, l) ∈ E → f[u]? = some (some du) → ∃ dv : Int, f[v]? = some (some dv) ∧ dv ≤ du + l) : f = rowOf n E s := by
  refine rowOf_eq len fun t o ht => IsD.of (fun d hd => wk t d (by rw [ht, hd])) fun w hwk => ?_
  have key : ∀ v w, Wk E s v w → ∃ d, f[v]? = some (some d) ∧ d ≤ w := fun v w hvw => by
    induction hvw with
    | nil => exact ⟨0, s0, Int.le_refl _⟩
    | @snoc u v w l hu he ih =>
      obtain ⟨du, h1, h2⟩ := ih
      obtain ⟨dv, h5, h6⟩ := rel u v l du he h1
      exact ⟨dv, h5, by omega⟩
  obtain ⟨d, h1, h2⟩ := key t w hwk
  rw [ht] at h1
  cases h1
  exact ⟨d, rfl, h2⟩
/-- the places whose length is not yet found -/
noncomputable def openN (n : Nat) (E : List Edge) (s : Nat) (f : List (Option Int)) : Nat := ((List.range n).filter fun v => decide (f[v]? ≠ some (dist E s v))).length
theorem filter_le_len {α : Type} (p q : α → Bool) : ∀ l : List α, (∀ x ∈ l, q x = true → p x = true) → (l.filter q).length ≤ (l.filter p).length
  | [], _ => Nat.le_refl _
  | x :: r, h => by
    have ih := filter_le_len p q r fun y hy => h y (List.mem_cons_of_mem _ hy)
    rw [List.filter_cons, List.filter_cons]
    cases hq : q x with
    | true => rw [h x List.mem_cons_self hq, if_pos rfl, if_pos rfl, List.length_cons, List.length_cons]; omega
    | false =>
      rw [if_neg Bool.false_ne_true]
      split
      · rw [List.length_cons]; omega
      · exact ih
theorem filter_lt_len {α : Type} (p q : α → Bool) : ∀ l : List α, (∀ x ∈ l, q x = true → p x = true) → ∀ y ∈ l, p y = true → q y = false → (l.filter q).length < (l.filter p).length
  | [], _, y, hy, _, _ => by cases hy
  | x :: r, h, y, hy, hp, hq => by
    have h' := fun z (hz : z ∈ r) => h z (List.mem_cons_of_mem _ hz)
    rw [List.filter_cons, List.filter_cons]
    rcases List.mem_cons.mp hy with e | hm
    · subst e
      have := filter_le_len p q r h'
      rw [hp, hq, if_pos rfl, if_neg Bool.false_ne_true, List.length_cons]
      omega
    · have ih := filter_lt_len p q r h' y hm hp hq
      cases hqx : q x with
      | true => rw [h x List.mem_cons_self hqx, if_pos rfl, if_pos rfl, List.length_cons, List.length_cons]; omega
      | false =>
        rw [if_neg Bool.false_ne_true]
        split
        · rw [List.length_cons]; omega
        · exact ih
/-- behind a round's ties P: f0 ahead of the round; c: something changed -/
structure Rt (n : Nat) (E : List Edge) (s : Nat) (f0 f : List (Option Int)) (P : Edge → Prop) (c : Bool) : Prop where
  len : f.length = n
  wk : ∀ (v : Nat) (d : Int), f[v]? = some (some d) → Wk E s v d
  le : ∀ (v : Nat) (d : Int), f0[v]? = some (some d) → ∃ d' : Int, f[v]? = some (some d') ∧ d' ≤ d
  did : ∀ (u v : Nat) (l du : Int), P (u, v, l) → f0[u]? = some (some du) → ∃ dv : Int, f[v]? = some (some dv) ∧ dv ≤ du + l
  same : c = false → f = f0
section
variable {n : Nat} {E : List Edge} {s : Nat} {f0 f : List (Option Int)} {P : Edge → Prop} {c : Bool}
theorem Rt.start (len : f.length = n) (wk : ∀ (v : Nat) (d : Int), f[v]? = some (some d) → Wk E s v d) : Rt n E s f f (fun _ => False) false := ⟨len, wk, fun v d h => ⟨d, h, Int.le_refl _⟩, fun _ _ _ _ h => h.elim, fun _ => rfl⟩
theorem Rt.imp {P' : Edge → Prop} (r : Rt n E s f0 f P c) (i : ∀ e, P' e → P e) : Rt n E s f0 f P' c := ⟨r.len, r.wk, r.le, fun u v l du h => r.did u v l du (i _ h), r.same⟩
theorem Rt.turn (wf : Wf n E) (r : Rt n E s f0 f P c) {a b : Nat} {l da : Int} (he : (a, b, l) ∈ E) (ha : f[a]? = some (some da)) (hlt : ltO (some (da + l)) (f[b]?.getD none) = true) :
    Rt n E s f0 (f.set b (some (da + l))) (fun e => P e ∨ e = (a, b, l)) true := by
  obtain ⟨w1, w2, w3⟩ := wf _ _ _ he
  have hvl : b < f.length := by rw [r.len]; exact w2
  have old : ∀ x, f[b]? = some (some x) → da + l < x := fun x hx => by
    rw [hx] at hlt
    exact of_decide_eq_true hlt
  have dn : ∀ (v : Nat) (d : Int), f[v]? = some (some d) → ∃ d' : Int, (f.set b (some (da + l)))[v]? = some (some d') ∧ d' ≤ d := fun v d hd => by
    by_cases hv : v = b
    · subst hv
      have := old d hd
      exact ⟨da + l, List.getElem?_set_self hvl, by omega⟩
    · rw [List.getElem?_set_ne (Ne.symm hv)]
      exact ⟨d, hd, Int.le_refl _⟩
  refine ⟨by rw [List.length_set, r.len], fun u x hx => ?_, fun u x hx => ?_, fun u v m du hP hu => ?_, fun h => by cases h⟩
  · by_cases hu : u = b
    · subst hu
      rw [List.getElem?_set_self hvl] at hx
      cases hx
      exact .snoc (r.wk a da ha) he
    · rw [List.getElem?_set_ne (Ne.symm hu)] at hx
      exact r.wk u x hx
  · obtain ⟨x', h1, h2⟩ := r.le u x hx
    obtain ⟨x'', h3, h4⟩ := dn u x' h1
    exact ⟨x'', h3, by omega⟩
  · rcases hP with hP | e
    · obtain ⟨dv, h1, h2⟩ := r.did u v m du hP hu
      obtain ⟨dv', h3, h4⟩ := dn v dv h1
      exact ⟨dv', h3, by omega⟩
    · cases e
      obtain ⟨x', h1, h2⟩ := r.le a du hu
      rw [ha] at h1
      cases h1
      exact ⟨da + l, List.getElem?_set_self hvl, by omega⟩
theorem Rt.skip (wf : Wf n E) (r : Rt n E s f0 f P c) {a b : Nat} {l : Int} (he : (a, b, l) ∈ E) (hno : ∀ da, f[a]? = some (some da) → ltO (some (da + l)) (f[b]?.getD none) = false) : Rt n E s f0 f (fun e => P e ∨ e = (a, b, l)) c := by
  obtain ⟨w1, w2, w3⟩ := wf _ _ _ he
  have hvl : b < f.length := by rw [r.len]; exact w2
  refine ⟨r.len, r.wk, r.le, fun u v m du hP hu => ?_, r.same⟩
  rcases hP with hP | e
  · exact r.did u v m du hP hu
  · cases e
    obtain ⟨x', h1, h2⟩ := r.le a du hu
    have := hno x' h1
    rw [List.getElem?_eq_getElem hvl] at this ⊢
    cases hf : f[b] with
    | none => rw [hf] at this; cases this
    | some x =>
      rw [hf] at this
      have : ¬ (x' + l < x) := of_decide_eq_false this
      exact ⟨x, rfl, by omega⟩
theorem Rt.fin (r : Rt n E s f0 f (fun e => e ∈ E) false) (s0 : f[s]? = some (some 0)) : f = rowOf n E s := by
  refine fin_rel r.len s0 r.wk fun u v l du he hu => r.did u v l du he ?_
  rw [r.same rfl] at hu
  exact hu
/-- a length that is found stays -/
theorem Rt.stay (wf : Wf n E) (r : Rt n E s f0 f P c) (l0 : f0.length = n) {v : Nat} (h : f0[v]? = some (dist E s v)) : f[v]? = some (dist E s v) := by
  have hv : v < n := by
    have := (List.getElem?_eq_some_iff.mp h).1
    omega
  have hd := isD_dist wf s v
  cases hq : dist E s v with
  | none =>
    rw [hq] at hd
    rw [List.getElem?_eq_getElem (by rw [r.len]; exact hv)]
    cases hf : f[v]'(by rw [r.len]; exact hv) with
    | none => rfl
    | some d => exact absurd (r.wk v d (by rw [List.getElem?_eq_getElem (by rw [r.len]; exact hv), hf])) (hd d)
  | some d =>
    rw [hq] at h hd
    obtain ⟨d', h1, h2⟩ := r.le v d h
    have := hd.2 d' (r.wk v d' h1)
    rw [h1]
    congr 2
    omega
/-- while one is open, a round closes one -/
theorem Rt.less (wf : Wf n E) (hs : s < n) (r : Rt n E s f0 f (fun e => e ∈ E) c) (l0 : f0.length = n) (w0 : ∀ (v : Nat) (d : Int), f0[v]? = some (some d) → Wk E s v d) (s0 : f0[s]? = some (some 0)) : openN n E s f ≤ openN n E s f0 - 1 := by
  have le : openN n E s f ≤ openN n E s f0 := by
    unfold openN
    refine filter_le_len _ _ _ fun v hv hq => ?_
    rw [decide_eq_true_eq] at hq ⊢
    exact fun h => hq (r.stay wf l0 h)
  by_cases hz : openN n E s f0 = 0
  · omega
  have hex : ∃ v, v < n ∧ f0[v]? ≠ some (dist E s v) := by
    unfold openN at hz
    obtain ⟨v, hv⟩ := List.exists_mem_of_length_pos (Nat.pos_of_ne_zero hz)
    obtain ⟨h1, h2⟩ := List.mem_filter.mp hv
    exact ⟨v, List.mem_range.mp h1, of_decide_eq_true h2⟩
  obtain ⟨v, hv, hne⟩ := hex
  have hd := isD_dist wf s v
  cases hq : dist E s v with
  | none =>
    rw [hq] at hd hne
    exfalso
    rw [List.getElem?_eq_getElem (by omega)] at hne
    cases hf : f0[v]'(by omega) with
    | none => rw [hf] at hne; exact hne rfl
    | some d => exact hd d (w0 v d (by rw [List.getElem?_eq_getElem (by omega), hf]))
  | some d =>
    rw [hq] at hd hne
    have key : ∀ (v : Nat) (d : Int), Wk E s v d → (∀ w, Wk E s v w → d ≤ w) → f0[v]? ≠ some (some d) → ∃ (a b : Nat) (l da : Int), (a, b, l) ∈ E ∧ f0[a]? = some (some da) ∧ dist E s b = some (da + l) ∧ f0[b]? ≠ some (some (da + l)) := fun v d hw => by
      induction hw with
      | nil => exact fun _ h => absurd s0 h
      | @snoc u v w l hu he ih =>
        intro hmin hne
        have hmu : ∀ w', Wk E s u w' → w ≤ w' := fun w' hw' => by
          have := hmin _ (.snoc hw' he)
          omega
        by_cases hfu : f0[u]? = some (some w)
        · exact ⟨u, v, l, w, he, hfu, dist_eq ⟨.snoc hu he, hmin⟩, hne⟩
        · exact ih hmu hfu
    obtain ⟨a, b, l, da, he, h1, h2, h3⟩ := key v d hd.1 hd.2 hne
    have hb : b < n := (wf _ _ _ he).2.1
    have hdb := isD_dist wf s b
    rw [h2] at hdb
    obtain ⟨db, h4, h5⟩ := r.did a b l da he h1
    have h6 := hdb.2 db (r.wk b db h4)
    have h7 : db = da + l := by omega
    have lt : openN n E s f < openN n E s f0 := by
      unfold openN
      refine filter_lt_len _ _ _ (fun v hv hq => ?_) b (List.mem_range.mpr hb) (decide_eq_true ?_) (decide_eq_false ?_)
      · rw [decide_eq_true_eq] at hq ⊢
        exact fun h => hq (r.stay wf l0 h)
      · rw [h2]
        exact h3
      · rw [h2, h4, h7]
        exact fun h => h rfl
    omega
theorem open0 (len : f.length = n) (h : openN n E s f = 0) : f = rowOf n E s := by
  apply List.ext_getElem?
  intro t
  by_cases ht : t < n
  · rw [rowOf_get ht]
    refine Classical.byContradiction fun hne => ?_
    unfold openN at h
    have := List.length_eq_zero_iff.mp h
    have hm : t ∈ (List.range n).filter fun v => decide (f[v]? ≠ some (dist E s v)) := List.mem_filter.mpr ⟨List.mem_range.mpr ht, decide_eq_true hne⟩
    rw [this] at hm
    cases hm
  · rw [List.getElem?_eq_none (by omega), List.getElem?_eq_none (by rw [rowOf_len]; omega)]
theorem open_le : openN n E s f ≤ n := by
  unfold openN
  exact Nat.le_trans (List.length_filter_le _ _) (by rw [List.length_range]; exact Nat.le_refl _)
end
end Wl
end

section
/-! M63: a tie that becomes longer. -/
namespace Wl
theorem longer_walk {R : List Edge} {a b : Nat} {l m : Int} (h : l ≤ m) {s t : Nat} {w : Int} (hw : Wk ((a, b, m) :: R) s t w) : ∃ w', Wk ((a, b, l) :: R) s t w' ∧ w' ≤ w := by
  induction hw with
  | nil => exact ⟨0, .nil, Int.le_refl _⟩
  | @snoc u v w k hu he ih =>
    obtain ⟨w', h1, h2⟩ := ih
    rcases List.mem_cons.mp he with e | he
    · cases e
      exact ⟨w' + l, .snoc h1 List.mem_cons_self, by omega⟩
    · exact ⟨w' + k, .snoc h1 (List.mem_cons_of_mem _ he), by omega⟩
/-- between -/
theorem IsD.between {E E' R : List Edge} {s t : Nat} {o : Option Int} (h1 : ∀ e, e ∈ R → e ∈ E') (h2 : ∀ w, Wk E' s t w → ∃ w', Wk E s t w' ∧ w' ≤ w) (d : IsD E s t o) (r : IsD R s t o) : IsD E' s t o := by
  refine IsD.of (fun x hx => ?_) fun w hw => ?_
  · subst hx
    exact r.1.mono h1
  · obtain ⟨w', h3, h4⟩ := h2 w hw
    obtain ⟨x, hx, hle⟩ := d.low w' h3
    exact ⟨x, hx, Int.le_trans hle h4⟩
/-- a tie that is on no shortest way from s -/
theorem keep_row {n : Nat} {R : List Edge} {a b : Nat} {l : Int} (hl : 0 ≤ l) (wf : Wf n R) {s : Nat} {da db : Option Int} (ha : IsD ((a, b, l) :: R) s a da) (hb : IsD ((a, b, l) :: R) s b db) (h : da = none ∨ ltO db (addO da (some l)) = true)
    {t : Nat} {o : Option Int} (d : IsD ((a, b, l) :: R) s t o) : IsD R s t o := by
  have key : ∀ t w, Wk ((a, b, l) :: R) s t w → ∃ w', Wk R s t w' ∧ w' ≤ w := fun t w hw => by
    rcases split_edge hl wf hw with ⟨w1, h1, h2⟩ | ⟨w1, w2, h1, h2, h3⟩
    · exact ⟨w1, h1, h2⟩
    · obtain ⟨da', rfl, h4⟩ := ha.low w1 (h1.mono sub_cons)
      rcases h with h | h
      · cases h
      · cases db with
        | none => cases h
        | some db =>
          have h5 : db < da' + l := of_decide_eq_true h
          rcases split_edge hl wf hb.1 with ⟨w3, h6, h7⟩ | ⟨w3, w4, h6, h7, h8⟩
          · exact ⟨w3 + w2, h6.trans h2, by omega⟩
          · have h9 := ha.2 w3 (h6.mono sub_cons)
            have h10 := h7.nonneg wf
            omega
  refine IsD.of (fun x hx => ?_) fun w hw => ?_
  · subst hx
    obtain ⟨w', h1, h2⟩ := key t x d.1
    have := d.2 w' (h1.mono sub_cons)
    have e : w' = x := by omega
    rw [← e]
    exact h1
  · obtain ⟨x, hx, hle⟩ := d.low w (hw.mono sub_cons)
    exact ⟨x, hx, hle⟩
end Wl
end

section
/-! M64: two lengths of one tie are compared. -/
namespace Wl
theorem cmp_two {n : Nat} {R : List Edge} {a b : Nat} {l m : Int} (hl : 0 ≤ l) (hlm : l ≤ m) (wf : Wf n R) (ha : a < n) (hb : b < n) (s t : Nat) :
    (∀ x, dist ((a, b, m) :: R) s t = some x → ∃ y, dist ((a, b, l) :: R) s t = some y ∧ y ≤ x ∧ x ≤ y + (m - l)) ∧ (dist ((a, b, m) :: R) s t = none → dist ((a, b, l) :: R) s t = none) := by
  have wl := Wf.cons wf ha hb hl
  have wm := Wf.cons wf ha hb (Int.le_trans hl hlm)
  have dl := isD_dist wl s t
  have dm := isD_dist wm s t
  have up : ∀ w, Wk ((a, b, l) :: R) s t w → ∃ w', Wk ((a, b, m) :: R) s t w' ∧ w' ≤ w + (m - l) := fun w hw => by
    rcases split_edge hl wf hw with ⟨w1, h1, h2⟩ | ⟨w1, w2, h1, h2, h3⟩
    · exact ⟨w1, h1.mono sub_cons, by omega⟩
    · exact ⟨w1 + m + w2, (Wk.snoc (h1.mono sub_cons) List.mem_cons_self).trans (h2.mono sub_cons), by omega⟩
  constructor
  · intro x hx
    rw [hx] at dm
    obtain ⟨w', h1, h2⟩ := longer_walk hlm dm.1
    obtain ⟨y, hy, hle⟩ := dl.low w' h1
    refine ⟨y, hy, by omega, ?_⟩
    rw [hy] at dl
    obtain ⟨w'', h3, h4⟩ := up y dl.1
    have := dm.2 w'' h3
    omega
  · intro hx
    rw [hx] at dm
    cases hy : dist ((a, b, l) :: R) s t with
    | none => rfl
    | some y =>
      rw [hy] at dl
      obtain ⟨w'', h3, _⟩ := up y dl.1
      exact absurd h3 (dm w'')
theorem cmp_out {n : Nat} {R : List Edge} {a b : Nat} {l : Int} (hl : 0 ≤ l) (wf : Wf n R) (ha : a < n) (hb : b < n) (s t : Nat) : ∀ x, dist R s t = some x → ∃ y, dist ((a, b, l) :: R) s t = some y ∧ y ≤ x := fun x hx => by
  have wl := Wf.cons wf ha hb hl
  have dl := isD_dist wl s t
  have dm := isD_dist wf s t
  rw [hx] at dm
  obtain ⟨y, hy, hle⟩ := dl.low x (dm.1.mono sub_cons)
  exact ⟨y, hy, hle⟩
/-- least lengths stay below 2 to the number of ties times the greatest length -/
theorem dist_small {n : Nat} {L : Int} (hL : 0 ≤ L) : ∀ (E : List Edge), Wf n E → (∀ e ∈ E, e.2.2 ≤ L) → ∀ s t w, Wk E s t w → ∃ w', Wk E s t w' ∧ w' ≤ (2 ^ E.length - 1) * L
  | [], wf, _, s, t, w, h => by
    cases h with
    | nil => exact ⟨0, .nil, by simp⟩
    | snoc _ he => exact absurd he (by simp)
  | (a, b, l) :: R, wf, hE, s, t, w, h => by
    have wr : Wf n R := fun u v m he => wf u v m (List.mem_cons_of_mem _ he)
    have hR : ∀ e ∈ R, e.2.2 ≤ L := fun e he => hE e (List.mem_cons_of_mem _ he)
    have h0 : 0 ≤ l := (wf a b l List.mem_cons_self).2.2
    have hl : l ≤ L := hE (a, b, l) List.mem_cons_self
    have ih := dist_small hL R wr hR
    have e1 : ((2 : Int) ^ ((a, b, l) :: R).length - 1) * L = 2 * ((2 ^ R.length - 1) * L) + L := by
      rw [List.length_cons, Int.pow_succ]
      rw [Int.sub_mul, Int.sub_mul, Int.mul_sub, Int.one_mul]
      rw [Int.mul_comm (2 ^ R.length) 2, Int.mul_assoc]
      omega
    have pos : 0 ≤ ((2 : Int) ^ R.length - 1) * L := by
      refine Int.mul_nonneg ?_ hL
      have : (0 : Int) < 2 ^ R.length := Int.pow_pos (by decide)
      omega
    rw [e1]
    rcases split_edge h0 wr h with ⟨w1, h1, h2⟩ | ⟨w1, w2, h1, h2, h3⟩
    · obtain ⟨w', h4, h5⟩ := ih s t w1 h1
      exact ⟨w', h4.mono sub_cons, by omega⟩
    · obtain ⟨w3, h4, h5⟩ := ih s a w1 h1
      obtain ⟨w4, h6, h7⟩ := ih b t w2 h2
      exact ⟨w3 + l + w4, (Wk.snoc (h4.mono sub_cons) List.mem_cons_self).trans (h6.mono sub_cons), by omega⟩
end Wl
end

section
set_option maxRecDepth 100000
namespace K60
open PySem PySem.Spec PyProof.Rows L2 DL
/-- is_integer -/
def bd_is_integer   : DS :=
  (sRet (dP (eAnd (e1 (gIsi ["int"]) (eV 0)) (eNot (e1 (gIsi ["bool"]) (eV 0))))))
def N_is_integer : List Str := ["value"]
def ev_is_integer   : EvS :=
  (zRet (eAnd (e1 (gIsi ["int"]) (eV 0)) (eNot (e1 (gIsi ["bool"]) (eV 0)))))
theorem pu_is_integer   : Pu (bd_is_integer  ) (ev_is_integer  ) := pu_ret
/-- is_count -/
def bd_is_count (g_is_integer : Mu → List D → Option D)  : DS :=
  (sRet (dP (eAnd (eFn g_is_integer [] 1 (eCons (eV 0) eNil)) (e2 (gCmpI fun i j => decide (j ≤ i)) (eV 0) (eC (.int 0))))))
def N_is_count : List Str := ["value"]
def ev_is_count (g_is_integer : Mu → List D → Option D)  : EvS :=
  (zRet (eAnd (eFn g_is_integer [] 1 (eCons (eV 0) eNil)) (e2 (gCmpI fun i j => decide (j ≤ i)) (eV 0) (eC (.int 0)))))
theorem pu_is_count {g_is_integer : Mu → List D → Option D}  : Pu (bd_is_count g_is_integer ) (ev_is_count g_is_integer ) := pu_ret
/-- is_within -/
def bd_is_within (g_is_integer : Mu → List D → Option D)  : DS :=
  (sRet (dP (eAnd (eFn g_is_integer [] 1 (eCons (eV 0) eNil)) (eChain gLe gLe (eV 1) (eV 0) (eV 2)))))
def N_is_within : List Str := ["value", "low", "high"]
def ev_is_within (g_is_integer : Mu → List D → Option D)  : EvS :=
  (zRet (eAnd (eFn g_is_integer [] 1 (eCons (eV 0) eNil)) (eChain gLe gLe (eV 1) (eV 0) (eV 2))))
theorem pu_is_within {g_is_integer : Mu → List D → Option D}  : Pu (bd_is_within g_is_integer ) (ev_is_within g_is_integer ) := pu_ret
/-- is_index -/
def bd_is_index (g_is_integer : Mu → List D → Option D)  : DS :=
  (sRet (dP (eAnd (eFn g_is_integer [] 1 (eCons (eV 0) eNil)) (eChain gLe (gCmpI fun i j => decide (i < j)) (eC (.int 0)) (eV 0) (eV 1)))))
def N_is_index : List Str := ["value", "many"]
def ev_is_index (g_is_integer : Mu → List D → Option D)  : EvS :=
  (zRet (eAnd (eFn g_is_integer [] 1 (eCons (eV 0) eNil)) (eChain gLe (gCmpI fun i j => decide (i < j)) (eC (.int 0)) (eV 0) (eV 1))))
theorem pu_is_index {g_is_integer : Mu → List D → Option D}  : Pu (bd_is_index g_is_integer ) (ev_is_index g_is_integer ) := pu_ret
/-- is_short -/
def bd_is_short   : DS :=
  (sRet (dP (e2 (gCmpI fun i j => decide (i < j)) (eV 0) (eC (.int (10 ^ 1000))))))
def N_is_short : List Str := ["value"]
def ev_is_short   : EvS :=
  (zRet (e2 (gCmpI fun i j => decide (i < j)) (eV 0) (eC (.int (10 ^ 1000)))))
theorem pu_is_short   : Pu (bd_is_short  ) (ev_is_short  ) := pu_ret
/-- is_list -/
def bd_is_list   : DS :=
  (sRet (dP (e1 (gIsi ["list", "tuple"]) (eV 0))))
def N_is_list : List Str := ["value"]
def ev_is_list   : EvS :=
  (zRet (e1 (gIsi ["list", "tuple"]) (eV 0)))
theorem pu_is_list   : Pu (bd_is_list  ) (ev_is_list  ) := pu_ret
/-- is_tuple -/
def bd_is_tuple   : DS :=
  (sRet (dP (eAnd (e1 (gIsi ["tuple"]) (eV 0)) (e2 (gEq false) (eN gLen (eCons (eV 0) eNil)) (eV 1)))))
def N_is_tuple : List Str := ["value", "many"]
def ev_is_tuple   : EvS :=
  (zRet (eAnd (e1 (gIsi ["tuple"]) (eV 0)) (e2 (gEq false) (eN gLen (eCons (eV 0) eNil)) (eV 1))))
theorem pu_is_tuple   : Pu (bd_is_tuple  ) (ev_is_tuple  ) := pu_ret
/-- in_order -/
def bd_in_order   : DS :=
  (sRet (dP (eN (gBls fun bs => bs.all id) (eCons (eLc (ipRg2 (eCons (eC (.int 1)) (eCons (eN gLen (eCons (eV 0) eNil)) eNil))) (egName 1) eYes (e2 gLe (e2 gIx (eV 0) (e2 (gArith fun i j => i - j) (eV 1) (eC (.int 1)))) (e2 gIx (eV 0) (eV 1))) [1]) eNil))))
def N_in_order : List Str := ["items", "at"]
def ev_in_order   : EvS :=
  (zRet (eN (gBls fun bs => bs.all id) (eCons (eLc (ipRg2 (eCons (eC (.int 1)) (eCons (eN gLen (eCons (eV 0) eNil)) eNil))) (egName 1) eYes (e2 gLe (e2 gIx (eV 0) (e2 (gArith fun i j => i - j) (eV 1) (eC (.int 1)))) (e2 gIx (eV 0) (eV 1))) [1]) eNil)))
theorem pu_in_order   : Pu (bd_in_order  ) (ev_in_order  ) := pu_ret
/-- count_in -/
def bd_count_in   : DS :=
  (sSeq (sIf (dPT (eOrT (eNotT (eTst (eChain gLe gLe (eC (.int 1)) (eN gLen (eCons (eV 0) eNil)) (eV 1)))) (eNotT (eTst (eN (gBls fun bs => bs.all id) (eCons (eLc (ipSeq (eV 0)) (egName 2) eYes (e2 (gIn false) (eV 2) (eC (.str "0123456789"))) [2]) eNil)))))) (sRet (dP (eC .non))) sNext) (sRet (dP (eIf (eOrT (eTst (e2 (gEq false) (eV 0) (eC (.str "0")))) (eTst (e2 (gEq true) (e2 gIx (eV 0) (eC (.int 0))) (eC (.str "0"))))) (eN gInt (eCons (eV 0) eNil)) (eC .non)))))
def N_count_in : List Str := ["word", "most", "sign"]
def ev_count_in   : EvS :=
  (zSeq (zIf (eOrT (eNotT (eTst (eChain gLe gLe (eC (.int 1)) (eN gLen (eCons (eV 0) eNil)) (eV 1)))) (eNotT (eTst (eN (gBls fun bs => bs.all id) (eCons (eLc (ipSeq (eV 0)) (egName 2) eYes (e2 (gIn false) (eV 2) (eC (.str "0123456789"))) [2]) eNil))))) (zRet (eC .non)) zNext) (zRet (eIf (eOrT (eTst (e2 (gEq false) (eV 0) (eC (.str "0")))) (eTst (e2 (gEq true) (e2 gIx (eV 0) (eC (.int 0))) (eC (.str "0"))))) (eN gInt (eCons (eV 0) eNil)) (eC .non))))
theorem pu_count_in   : Pu (bd_count_in  ) (ev_count_in  ) := (pu_seq (pu_if pu_ret pu_next) pu_ret)
/-- plus -/
def bd_plus   : DS :=
  (sRet (dP (eIf (eOrT (eTst (e2 (gIs false) (eV 0) (eC .non))) (eTst (e2 (gIs false) (eV 1) (eC .non)))) (eC .non) (e2 gAdd (eV 0) (eV 1)))))
def N_plus : List Str := ["one", "other"]
def ev_plus   : EvS :=
  (zRet (eIf (eOrT (eTst (e2 (gIs false) (eV 0) (eC .non))) (eTst (e2 (gIs false) (eV 1) (eC .non)))) (eC .non) (e2 gAdd (eV 0) (eV 1))))
theorem pu_plus   : Pu (bd_plus  ) (ev_plus  ) := pu_ret
/-- is_less -/
def bd_is_less   : DS :=
  (sRet (dP (eAnd (e2 (gIs true) (eV 0) (eC .non)) (eOr (e2 (gIs false) (eV 1) (eC .non)) (e2 (gCmpI fun i j => decide (i < j)) (eV 0) (eV 1))))))
def N_is_less : List Str := ["one", "other"]
def ev_is_less   : EvS :=
  (zRet (eAnd (e2 (gIs true) (eV 0) (eC .non)) (eOr (e2 (gIs false) (eV 1) (eC .non)) (e2 (gCmpI fun i j => decide (i < j)) (eV 0) (eV 1)))))
theorem pu_is_less   : Pu (bd_is_less  ) (ev_is_less  ) := pu_ret
/-- least -/
def bd_least (g_is_less : Mu → List D → Option D)  : DS :=
  (sRet (dP (eIf (eTst (eFn g_is_less [] 2 (eCons (eV 0) (eCons (eV 1) eNil)))) (eV 0) (eV 1))))
def N_least : List Str := ["one", "other"]
def ev_least (g_is_less : Mu → List D → Option D)  : EvS :=
  (zRet (eIf (eTst (eFn g_is_less [] 2 (eCons (eV 0) (eCons (eV 1) eNil)))) (eV 0) (eV 1)))
theorem pu_least {g_is_less : Mu → List D → Option D}  : Pu (bd_least g_is_less ) (ev_least g_is_less ) := pu_ret
/-- is_tie -/
def bd_is_tie (g_is_count : Mu → List D → Option D) (g_is_index : Mu → List D → Option D) (g_is_tuple : Mu → List D → Option D)  : DS :=
  (sSeq (sIf (dPT (eOrT (eNotT (eTst (eFn g_is_tuple [] 2 (eCons (eV 1) (eCons (eC (.int 3)) eNil))))) (eOrT (eNotT (eTst (eFn g_is_index [] 2 (eCons (e2 gIx (eV 1) (eC (.int 0))) (eCons (eV 0) eNil))))) (eNotT (eTst (eFn g_is_index [] 2 (eCons (e2 gIx (eV 1) (eC (.int 1))) (eCons (eV 0) eNil)))))))) (sRet (dP (eC (.bl false)))) sNext) (sRet (dP (eAnd (e2 (gEq true) (e2 gIx (eV 1) (eC (.int 0))) (e2 gIx (eV 1) (eC (.int 1)))) (eFn g_is_count [] 1 (eCons (e2 gIx (eV 1) (eC (.int 2))) eNil))))))
def N_is_tie : List Str := ["many", "value"]
def ev_is_tie (g_is_count : Mu → List D → Option D) (g_is_index : Mu → List D → Option D) (g_is_tuple : Mu → List D → Option D)  : EvS :=
  (zSeq (zIf (eOrT (eNotT (eTst (eFn g_is_tuple [] 2 (eCons (eV 1) (eCons (eC (.int 3)) eNil))))) (eOrT (eNotT (eTst (eFn g_is_index [] 2 (eCons (e2 gIx (eV 1) (eC (.int 0))) (eCons (eV 0) eNil))))) (eNotT (eTst (eFn g_is_index [] 2 (eCons (e2 gIx (eV 1) (eC (.int 1))) (eCons (eV 0) eNil))))))) (zRet (eC (.bl false))) zNext) (zRet (eAnd (e2 (gEq true) (e2 gIx (eV 1) (eC (.int 0))) (e2 gIx (eV 1) (eC (.int 1)))) (eFn g_is_count [] 1 (eCons (e2 gIx (eV 1) (eC (.int 2))) eNil)))))
theorem pu_is_tie {g_is_count : Mu → List D → Option D} {g_is_index : Mu → List D → Option D} {g_is_tuple : Mu → List D → Option D}  : Pu (bd_is_tie g_is_count g_is_index g_is_tuple ) (ev_is_tie g_is_count g_is_index g_is_tuple ) := (pu_seq (pu_if pu_ret pu_next) pu_ret)
/-- is_map -/
def bd_is_map (g_in_order : Mu → List D → Option D) (g_is_tie : Mu → List D → Option D) (g_is_tuple : Mu → List D → Option D) (g_is_within : Mu → List D → Option D)  : DS :=
  (sSeq (sIf (dPT (eOrT (eNotT (eTst (eFn g_is_tuple [] 2 (eCons (eV 0) (eCons (eC (.int 2)) eNil))))) (eNotT (eTst (eFn g_is_within [] 3 (eCons (e2 gIx (eV 0) (eC (.int 0))) (eCons (eC (.int 1)) (eCons (eC (.int 20)) eNil)))))))) (sRet (dP (eC (.bl false)))) sNext) (sSeq (sAsg (dP (eV 0)) (dgTup 2 (dgCons (dgName 1) (dgCons (dgName 2) dgNil)))) (sSeq (sIf (dPT (eOrT (eNotT (eTst (e1 (gIsi ["tuple"]) (eV 2)))) (eTst (e2 (gCmpI fun i j => decide (j < i)) (eN gLen (eCons (eV 2) eNil)) (eC (.int 120)))))) (sRet (dP (eC (.bl false)))) sNext) (sRet (dP (eAnd (eN (gBls fun bs => bs.all id) (eCons (eLc (ipSeq (eV 2)) (egName 3) eYes (eFn g_is_tie [] 2 (eCons (eV 1) (eCons (eV 3) eNil))) [3]) eNil)) (eFn g_in_order [] 1 (eCons (eV 2) eNil))))))))
def N_is_map : List Str := ["value", "many", "ties", "tie"]
def ev_is_map (g_in_order : Mu → List D → Option D) (g_is_tie : Mu → List D → Option D) (g_is_tuple : Mu → List D → Option D) (g_is_within : Mu → List D → Option D)  : EvS :=
  (zSeq (zIf (eOrT (eNotT (eTst (eFn g_is_tuple [] 2 (eCons (eV 0) (eCons (eC (.int 2)) eNil))))) (eNotT (eTst (eFn g_is_within [] 3 (eCons (e2 gIx (eV 0) (eC (.int 0))) (eCons (eC (.int 1)) (eCons (eC (.int 20)) eNil))))))) (zRet (eC (.bl false))) zNext) (zSeq (zAsg (eV 0) (egTup 2 (egCons (egName 1) (egCons (egName 2) egNil)))) (zSeq (zIf (eOrT (eNotT (eTst (e1 (gIsi ["tuple"]) (eV 2)))) (eTst (e2 (gCmpI fun i j => decide (j < i)) (eN gLen (eCons (eV 2) eNil)) (eC (.int 120))))) (zRet (eC (.bl false))) zNext) (zRet (eAnd (eN (gBls fun bs => bs.all id) (eCons (eLc (ipSeq (eV 2)) (egName 3) eYes (eFn g_is_tie [] 2 (eCons (eV 1) (eCons (eV 3) eNil))) [3]) eNil)) (eFn g_in_order [] 1 (eCons (eV 2) eNil)))))))
theorem pu_is_map {g_in_order : Mu → List D → Option D} {g_is_tie : Mu → List D → Option D} {g_is_tuple : Mu → List D → Option D} {g_is_within : Mu → List D → Option D}  : Pu (bd_is_map g_in_order g_is_tie g_is_tuple g_is_within ) (ev_is_map g_in_order g_is_tie g_is_tuple g_is_within ) := (pu_seq (pu_if pu_ret pu_next) (pu_seq (pu_asg (ge_tup (ge_cons ge_name (ge_cons ge_name ge_nil)))) (pu_seq (pu_if pu_ret pu_next) pu_ret)))
/-- check_map -/
def bd_check_map (g_is_map : Mu → List D → Option D)  : DS :=
  (sIf (dPT (eNotT (eTst (eFn g_is_map [] 1 (eCons (eV 0) eNil))))) sNever sNext)
def N_check_map : List Str := ["roads"]
def ev_check_map (g_is_map : Mu → List D → Option D)  : EvS :=
  (zIf (eNotT (eTst (eFn g_is_map [] 1 (eCons (eV 0) eNil)))) zNever zNext)
theorem pu_check_map {g_is_map : Mu → List D → Option D}  : Pu (bd_check_map g_is_map ) (ev_check_map g_is_map ) := (pu_if pu_never pu_next)
/-- map_of -/
def bd_map_of   : DS :=
  (sRet (dP (eN gTup (eCons (eV 0) (eCons (eN gTuple (eCons (eN gSorted (eCons (eV 1) eNil)) eNil)) eNil)))))
def N_map_of : List Str := ["many", "ties"]
def ev_map_of   : EvS :=
  (zRet (eN gTup (eCons (eV 0) (eCons (eN gTuple (eCons (eN gSorted (eCons (eV 1) eNil)) eNil)) eNil))))
theorem pu_map_of   : Pu (bd_map_of  ) (ev_map_of  ) := pu_ret
/-- write_map -/
def bd_write_map (g_check_map : Mu → List D → Option D) (g_is_short : Mu → List D → Option D)  : DS :=
  (sSeq (sDrop (dP (eFn g_check_map [] 1 (eCons (eV 0) eNil)))) (sSeq (sAsg (dP (eV 0)) (dgTup 2 (dgCons (dgName 1) (dgCons (dgName 2) dgNil)))) (sSeq (sIf (dPT (eNotT (eTst (eN (gBls fun bs => bs.all id) (eCons (eLc (ipSeq (eV 2)) (egTup 3 (egCons (egName 3) (egCons (egName 4) (egCons (egName 5) egNil)))) eYes (eFn g_is_short [] 1 (eCons (eV 5) eNil)) [3, 4, 5]) eNil))))) sNever sNext) (sRet (dP (e2 gJoin (eC (.str "\n")) (e2 gAdd (eN gLst (eCons (eJs [(eC (.str "places ")), (e1 gFmt (eV 1))] Str.empty) eNil)) (eLc (ipSeq (eV 2)) (egTup 3 (egCons (egName 3) (egCons (egName 4) (egCons (egName 5) egNil)))) eYes (eJs [(eC (.str "tie ")), (e1 gFmt (eV 3)), (eC (.str " ")), (e1 gFmt (eV 4)), (eC (.str " ")), (e1 gFmt (eV 5))] Str.empty) [3, 4, 5]))))))))
def N_write_map : List Str := ["roads", "many", "ties", "a", "b", "length"]
def ev_write_map (g_check_map : Mu → List D → Option D) (g_is_short : Mu → List D → Option D)  : EvS :=
  (zSeq (zDrop (eFn g_check_map [] 1 (eCons (eV 0) eNil))) (zSeq (zAsg (eV 0) (egTup 2 (egCons (egName 1) (egCons (egName 2) egNil)))) (zSeq (zIf (eNotT (eTst (eN (gBls fun bs => bs.all id) (eCons (eLc (ipSeq (eV 2)) (egTup 3 (egCons (egName 3) (egCons (egName 4) (egCons (egName 5) egNil)))) eYes (eFn g_is_short [] 1 (eCons (eV 5) eNil)) [3, 4, 5]) eNil)))) zNever zNext) (zRet (e2 gJoin (eC (.str "\n")) (e2 gAdd (eN gLst (eCons (eJs [(eC (.str "places ")), (e1 gFmt (eV 1))] Str.empty) eNil)) (eLc (ipSeq (eV 2)) (egTup 3 (egCons (egName 3) (egCons (egName 4) (egCons (egName 5) egNil)))) eYes (eJs [(eC (.str "tie ")), (e1 gFmt (eV 3)), (eC (.str " ")), (e1 gFmt (eV 4)), (eC (.str " ")), (e1 gFmt (eV 5))] Str.empty) [3, 4, 5])))))))
theorem pu_write_map {g_check_map : Mu → List D → Option D} {g_is_short : Mu → List D → Option D}  : Pu (bd_write_map g_check_map g_is_short ) (ev_write_map g_check_map g_is_short ) := (pu_seq pu_drop (pu_seq (pu_asg (ge_tup (ge_cons ge_name (ge_cons ge_name ge_nil)))) (pu_seq (pu_if pu_never pu_next) pu_ret)))
/-- tie_in -/
def bd_tie_in (g_count_in : Mu → List D → Option D)  : DS :=
  (sSeq (sAsg (dP (e2 gSplit (eV 0) (eC (.str " ")))) (dgName 1)) (sSeq (sIf (dPT (eOrT (eTst (e2 (gEq true) (eN gLen (eCons (eV 1) eNil)) (eC (.int 4)))) (eTst (e2 (gEq true) (e2 gIx (eV 1) (eC (.int 0))) (eC (.str "tie")))))) (sRet (dP (eC .non))) sNext) (sSeq (sAsg (dP (eN gTup (eCons (eFn g_count_in [] 2 (eCons (e2 gIx (eV 1) (eC (.int 1))) (eCons (eC (.int 2)) eNil))) (eCons (eFn g_count_in [] 2 (eCons (e2 gIx (eV 1) (eC (.int 2))) (eCons (eC (.int 2)) eNil))) (eCons (eFn g_count_in [.int 1000] 2 (eCons (e2 gIx (eV 1) (eC (.int 3))) eNil)) eNil))))) (dgName 2)) (sRet (dP (eIf (eTst (e2 (gIn false) (eC .non) (eV 2))) (eC .non) (eV 2)))))))
def N_tie_in : List Str := ["line", "words", "found"]
def ev_tie_in (g_count_in : Mu → List D → Option D)  : EvS :=
  (zSeq (zAsg (e2 gSplit (eV 0) (eC (.str " "))) (egName 1)) (zSeq (zIf (eOrT (eTst (e2 (gEq true) (eN gLen (eCons (eV 1) eNil)) (eC (.int 4)))) (eTst (e2 (gEq true) (e2 gIx (eV 1) (eC (.int 0))) (eC (.str "tie"))))) (zRet (eC .non)) zNext) (zSeq (zAsg (eN gTup (eCons (eFn g_count_in [] 2 (eCons (e2 gIx (eV 1) (eC (.int 1))) (eCons (eC (.int 2)) eNil))) (eCons (eFn g_count_in [] 2 (eCons (e2 gIx (eV 1) (eC (.int 2))) (eCons (eC (.int 2)) eNil))) (eCons (eFn g_count_in [.int 1000] 2 (eCons (e2 gIx (eV 1) (eC (.int 3))) eNil)) eNil)))) (egName 2)) (zRet (eIf (eTst (e2 (gIn false) (eC .non) (eV 2))) (eC .non) (eV 2))))))
theorem pu_tie_in {g_count_in : Mu → List D → Option D}  : Pu (bd_tie_in g_count_in ) (ev_tie_in g_count_in ) := (pu_seq (pu_asg ge_name) (pu_seq (pu_if pu_ret pu_next) (pu_seq (pu_asg ge_name) pu_ret)))
/-- read_map -/
def bd_read_map (g_count_in : Mu → List D → Option D) (g_is_map : Mu → List D → Option D) (g_map_of : Mu → List D → Option D) (g_tie_in : Mu → List D → Option D)  : DS :=
  (sSeq (sIf (dPT (eNotT (eTst (e1 (gIsi ["str"]) (eV 0))))) sNever sNext) (sSeq (sAsg (dP (e2 gSplit (eV 0) (eC (.str "\n")))) (dgStar 2 1 (dgCons (dgName 2) (dgCons (dgName 5) dgNil)))) (sSeq (sPar 3 4 (dPA (eCons (e2 gSplit (eV 2) (eC (.str " "))) (eCons (eLc (ipSeq (eV 5)) (egName 6) eYes (eFn g_tie_in [] 1 (eCons (eV 6) eNil)) [6]) eNil)))) (sSeq (sIf (dPT (eOrT (eTst (e2 (gEq true) (eN gLen (eCons (eV 3) eNil)) (eC (.int 2)))) (eOrT (eTst (e2 (gEq true) (e2 gIx (eV 3) (eC (.int 0))) (eC (.str "places")))) (eTst (e2 (gIn false) (eC .non) (eV 4)))))) sNever sNext) (sSeq (sAsg (dP (eFn g_map_of [] 2 (eCons (eFn g_count_in [] 2 (eCons (e2 gIx (eV 3) (eC (.int 1))) (eCons (eC (.int 2)) eNil))) (eCons (eV 4) eNil)))) (dgName 1)) (sSeq (sIf (dPT (eNotT (eTst (eFn g_is_map [] 1 (eCons (eV 1) eNil))))) sNever sNext) (sRet (dP (eV 1)))))))))
def N_read_map : List Str := ["text", "roads", "head", "words", "ties", "lines", "line"]
def ev_read_map (g_count_in : Mu → List D → Option D) (g_is_map : Mu → List D → Option D) (g_map_of : Mu → List D → Option D) (g_tie_in : Mu → List D → Option D)  : EvS :=
  (zSeq (zIf (eNotT (eTst (e1 (gIsi ["str"]) (eV 0)))) zNever zNext) (zSeq (zAsg (e2 gSplit (eV 0) (eC (.str "\n"))) (egStar 2 1 (egCons (egName 2) (egCons (egName 5) egNil)))) (zSeq (zPar 3 4 (eCons (e2 gSplit (eV 2) (eC (.str " "))) (eCons (eLc (ipSeq (eV 5)) (egName 6) eYes (eFn g_tie_in [] 1 (eCons (eV 6) eNil)) [6]) eNil))) (zSeq (zIf (eOrT (eTst (e2 (gEq true) (eN gLen (eCons (eV 3) eNil)) (eC (.int 2)))) (eOrT (eTst (e2 (gEq true) (e2 gIx (eV 3) (eC (.int 0))) (eC (.str "places")))) (eTst (e2 (gIn false) (eC .non) (eV 4))))) zNever zNext) (zSeq (zAsg (eFn g_map_of [] 2 (eCons (eFn g_count_in [] 2 (eCons (e2 gIx (eV 3) (eC (.int 1))) (eCons (eC (.int 2)) eNil))) (eCons (eV 4) eNil))) (egName 1)) (zSeq (zIf (eNotT (eTst (eFn g_is_map [] 1 (eCons (eV 1) eNil)))) zNever zNext) (zRet (eV 1))))))))
theorem pu_read_map {g_count_in : Mu → List D → Option D} {g_is_map : Mu → List D → Option D} {g_map_of : Mu → List D → Option D} {g_tie_in : Mu → List D → Option D}  : Pu (bd_read_map g_count_in g_is_map g_map_of g_tie_in ) (ev_read_map g_count_in g_is_map g_map_of g_tie_in ) := (pu_seq (pu_if pu_never pu_next) (pu_seq (pu_asg (ge_star (ge_cons ge_name (ge_cons ge_name ge_nil)))) (pu_seq pu_par (pu_seq (pu_if pu_never pu_next) (pu_seq (pu_asg ge_name) (pu_seq (pu_if pu_never pu_next) pu_ret))))))
/-- ties_from -/
def bd_ties_from   : DS :=
  (sSeq (sAsg (dFz (dLc (iRg1 (dPA (eCons (eV 0) eNil))) (dgName 4) dYes (dLstM (dPA eNil)) [4])) (dgName 2)) (sSeq (sFor (iEn (dPA (eCons (eV 1) eNil))) (dgTup 2 (dgCons (dgName 3) (dgCons (dgTup 3 (dgCons (dgName 5) (dgCons (dgName 6) (dgCons (dgName 7) dgNil)))) dgNil))) (sGh (sDrop (dBM fApp (dP (e2 gIx (eV 2) (eV 5))) (dPA (eCons (eN gTup (eCons (eV 3) (eCons (eV 6) (eCons (eV 7) eNil)))) eNil)))))) (sRet (dP (eV 2)))))
def N_ties_from : List Str := ["many", "ties", "found", "index", "_", "a", "b", "length"]
/-- search -/
def bd_search (S_ties_from : DC) (g_is_less : Mu → List D → Option D)  : DS :=
  (sSeq (sAsg (dTup (dCons (dFn S_ties_from [] 2 (dPA (eCons (eV 0) (eCons (eV 1) eNil)))) (dCons (dOp fMulM (dLstM (dPA (eCons (eC .non) eNil))) (dP (eV 0))) (dCons (dOp fMulM (dLstM (dPA (eCons (eC .non) eNil))) (dP (eV 0))) (dCons (dRgM (eV 0)) (dPA eNil)))))) (dgTup 4 (dgCons (dgName 3) (dgCons (dgName 4) (dgCons (dgName 5) (dgCons (dgName 6) dgNil)))))) (sSeq (sAsg (dP (eC (.int 0))) (dgSub (dP (eV 4)) (dP (eV 2)))) (sSeq (sWhile (dPT (eTst (e2 (gEq true) (eV 6) (eN gLst eNil)))) (sGh (sSeq (sAsg (dP (e2 gIx (eV 6) (eC (.int 0)))) (dgName 7)) (sSeq (sFor (iSeq (dP (eV 6))) (dgName 8) (sGh (sIf (dPT (eTst (eFn g_is_less [] 2 (eCons (e2 gIx (eV 4) (eV 8)) (eCons (e2 gIx (eV 4) (eV 7)) eNil))))) (sAsg (dP (eV 8)) (dgName 7)) sNext))) (sSeq (sDrop (dRem (dP (eV 6)) (dP (eV 7)))) (sSeq (sIf (dPT (eTst (e2 (gIs false) (e2 gIx (eV 4) (eV 7)) (eC .non)))) (sRet (dP (eN gTup (eCons (eV 4) (eCons (eV 5) eNil))))) sNext) (sFor (iSeq (dP (e2 gIx (eV 3) (eV 7)))) (dgTup 3 (dgCons (dgName 9) (dgCons (dgName 8) (dgCons (dgName 10) dgNil)))) (sGh (sIf (dPT (eTst (eFn g_is_less [] 2 (eCons (e2 gAdd (e2 gIx (eV 4) (eV 7)) (eV 10)) (eCons (e2 gIx (eV 4) (eV 8)) eNil))))) (sAsg (dP (eN gTup (eCons (e2 gAdd (e2 gIx (eV 4) (eV 7)) (eV 10)) (eCons (eV 9) eNil)))) (dgTup 2 (dgCons (dgSub (dP (eV 4)) (dP (eV 8))) (dgCons (dgSub (dP (eV 5)) (dP (eV 8))) dgNil)))) sNext))))))))) (sRet (dP (eN gTup (eCons (eV 4) (eCons (eV 5) eNil))))))))
def N_search : List Str := ["many", "ties", "one", "leading", "found", "came", "waiting", "here", "place", "index", "length"]
/-- lengths_from -/
def bd_lengths_from (S_search : DC)  : DS :=
  (sRet (dOp (p2 gIx) (dFn S_search [] 3 (dPA (eCons (eV 0) (eCons (eV 1) (eCons (eV 2) eNil))))) (dP (eC (.int 0)))))
def N_lengths_from : List Str := ["many", "ties", "one"]
/-- lengths_of -/
def bd_lengths_of (g_lengths_from : Mu → List D → Option D)  : DS :=
  (sRet (dP (eN gTuple (eCons (eLc (ipRg1 (eCons (e2 gIx (eV 0) (eC (.int 0))) eNil)) (egName 1) eYes (eN gTuple (eCons (eFn g_lengths_from [] 3 (eCons (e2 gIx (eV 0) (eC (.int 0))) (eCons (e2 gIx (eV 0) (eC (.int 1))) (eCons (eV 1) eNil)))) eNil)) [1]) eNil))))
def N_lengths_of : List Str := ["roads", "one"]
def ev_lengths_of (g_lengths_from : Mu → List D → Option D)  : EvS :=
  (zRet (eN gTuple (eCons (eLc (ipRg1 (eCons (e2 gIx (eV 0) (eC (.int 0))) eNil)) (egName 1) eYes (eN gTuple (eCons (eFn g_lengths_from [] 3 (eCons (e2 gIx (eV 0) (eC (.int 0))) (eCons (e2 gIx (eV 0) (eC (.int 1))) (eCons (eV 1) eNil)))) eNil)) [1]) eNil)))
theorem pu_lengths_of {g_lengths_from : Mu → List D → Option D}  : Pu (bd_lengths_of g_lengths_from ) (ev_lengths_of g_lengths_from ) := pu_ret
/-- lengths -/
def bd_lengths (g_check_map : Mu → List D → Option D) (g_lengths_of : Mu → List D → Option D)  : DS :=
  (sSeq (sDrop (dP (eFn g_check_map [] 1 (eCons (eV 0) eNil)))) (sRet (dP (eFn g_lengths_of [] 1 (eCons (eV 0) eNil)))))
def N_lengths : List Str := ["roads"]
def ev_lengths (g_check_map : Mu → List D → Option D) (g_lengths_of : Mu → List D → Option D)  : EvS :=
  (zSeq (zDrop (eFn g_check_map [] 1 (eCons (eV 0) eNil))) (zRet (eFn g_lengths_of [] 1 (eCons (eV 0) eNil))))
theorem pu_lengths {g_check_map : Mu → List D → Option D} {g_lengths_of : Mu → List D → Option D}  : Pu (bd_lengths g_check_map g_lengths_of ) (ev_lengths g_check_map g_lengths_of ) := (pu_seq pu_drop pu_ret)
/-- present -/
def bd_present   : DS :=
  (sRet (dP (eLc (ipSeq (eV 0)) (egName 1) (eTst (e2 (gIs true) (e2 gIx (eV 1) (eC (.int 2))) (eC .non))) (eV 1) [1])))
def N_present : List Str := ["ties", "tie"]
def ev_present   : EvS :=
  (zRet (eLc (ipSeq (eV 0)) (egName 1) (eTst (e2 (gIs true) (e2 gIx (eV 1) (eC (.int 2))) (eC .non))) (eV 1) [1]))
theorem pu_present   : Pu (bd_present  ) (ev_present  ) := pu_ret
/-- with_length -/
def bd_with_length   : DS :=
  (sSeq (sAsg (dP (e2 gIx (eV 0) (eV 1))) (dgTup 3 (dgCons (dgName 3) (dgCons (dgName 4) (dgCons (dgName 5) dgNil))))) (sRet (dP (eN gLst (eStar (eSl (eV 0) eNoPart (ePart (eV 1))) (eCons (eN gTup (eCons (eV 3) (eCons (eV 4) (eCons (eV 2) eNil)))) (eStar (eSl (eV 0) (ePart (e2 gAdd (eV 1) (eC (.int 1)))) eNoPart) eNil)))))))
def N_with_length : List Str := ["ties", "index", "length", "a", "b", "before"]
def ev_with_length   : EvS :=
  (zSeq (zAsg (e2 gIx (eV 0) (eV 1)) (egTup 3 (egCons (egName 3) (egCons (egName 4) (egCons (egName 5) egNil))))) (zRet (eN gLst (eStar (eSl (eV 0) eNoPart (ePart (eV 1))) (eCons (eN gTup (eCons (eV 3) (eCons (eV 4) (eCons (eV 2) eNil)))) (eStar (eSl (eV 0) (ePart (e2 gAdd (eV 1) (eC (.int 1)))) eNoPart) eNil))))))
theorem pu_with_length   : Pu (bd_with_length  ) (ev_with_length  ) := (pu_seq (pu_asg (ge_tup (ge_cons ge_name (ge_cons ge_name (ge_cons ge_name ge_nil))))) pu_ret)
/-- shortened -/
def bd_shortened (g_least : Mu → List D → Option D) (g_plus : Mu → List D → Option D)  : DS :=
  (sSeq (sAsg (dLstM (dPA eNil)) (dgName 4)) (sSeq (sFor (iSeq (dP (eV 0))) (dgName 5) (sGh (sSeq (sAsg (dP (eFn g_plus [] 2 (eCons (e2 gIx (eV 5) (eV 1)) (eCons (eV 3) eNil)))) (dgName 6)) (sDrop (dBM fApp (dP (eV 4)) (dPA (eCons (eN gTuple (eCons (eLc (ipZp (eCons (eV 5) (eCons (e2 gIx (eV 0) (eV 2)) eNil))) (egTup 2 (egCons (egName 7) (egCons (egName 8) egNil))) eYes (eFn g_least [] 2 (eCons (eV 7) (eCons (eFn g_plus [] 2 (eCons (eV 6) (eCons (eV 8) eNil))) eNil))) [7, 8]) eNil)) eNil))))))) (sRet (dP (eN gTuple (eCons (eV 4) eNil))))))
def N_shortened : List Str := ["table", "a", "b", "length", "rows", "row", "there", "before", "onward"]
/-- lengthened -/
def bd_lengthened (g_is_less : Mu → List D → Option D) (g_lengths_from : Mu → List D → Option D) (g_plus : Mu → List D → Option D) (g_present : Mu → List D → Option D)  : DS :=
  (sSeq (sAsg (dLstM (dPA eNil)) (dgName 6)) (sSeq (sFor (iEn (dPA (eCons (eV 1) eNil))) (dgTup 2 (dgCons (dgName 7) (dgCons (dgName 8) dgNil))) (sGh (sSeq (sAsg (dP (eFn g_plus [] 2 (eCons (e2 gIx (eV 8) (eV 3)) (eCons (eV 5) eNil)))) (dgName 9)) (sDrop (dBM fApp (dP (eV 6)) (dPA (eCons (eIf (eOrT (eTst (e2 (gIs false) (eV 9) (eC .non))) (eTst (eFn g_is_less [] 2 (eCons (e2 gIx (eV 8) (eV 4)) (eCons (eV 9) eNil))))) (eV 8) (eN gTuple (eCons (eFn g_lengths_from [] 3 (eCons (eV 0) (eCons (eFn g_present [] 1 (eCons (eV 2) eNil)) (eCons (eV 7) eNil)))) eNil))) eNil))))))) (sRet (dP (eN gTuple (eCons (eV 6) eNil))))))
def N_lengthened : List Str := ["many", "table", "ties", "a", "b", "before", "rows", "one", "row", "along"]
/-- Watch.__init__ -/
def bd_Watch_init (g_lengths_of : Mu → List D → Option D) (g_write_map : Mu → List D → Option D) (C_Watch : Addr) : DS :=
  (sSeq (sFldS C_Watch "_head" (dP (eV 0)) (dP (e2 gSplit (eFn g_write_map [] 1 (eCons (eV 1) eNil)) (eC (.str "\n"))))) (sSeq (sFldS C_Watch "_many" (dP (eV 0)) (dP (e2 gIx (eV 1) (eC (.int 0))))) (sSeq (sFldS C_Watch "_ties" (dP (eV 0)) (dP (eN gList (eCons (e2 gIx (eV 1) (eC (.int 1))) eNil)))) (sSeq (sFldS C_Watch "_table" (dP (eV 0)) (dP (eFn g_lengths_of [] 1 (eCons (eV 1) eNil)))) (sFldS C_Watch "_done" (dP (eV 0)) (dLstM (dPA eNil)))))))
def N_Watch_init : List Str := ["self", "roads"]
/-- Watch._check_tie -/
def bd_Watch__check_tie (g_is_index : Mu → List D → Option D) (C_Watch : Addr) : DS :=
  (sIf (dPT (eNotT (eTst (eFn g_is_index [] 2 (eCons (eV 1) (eCons (eN gLen (eCons (e1 (gFld C_Watch "_ties") (eV 0)) eNil)) eNil)))))) sNever sNext)
def N_Watch__check_tie : List Str := ["self", "tie"]
def ev_Watch__check_tie (g_is_index : Mu → List D → Option D) (C_Watch : Addr) : EvS :=
  (zIf (eNotT (eTst (eFn g_is_index [] 2 (eCons (eV 1) (eCons (eN gLen (eCons (e1 (gFld C_Watch "_ties") (eV 0)) eNil)) eNil))))) zNever zNext)
theorem pu_Watch__check_tie {g_is_index : Mu → List D → Option D} {C_Watch : Addr} : Pu (bd_Watch__check_tie g_is_index C_Watch) (ev_Watch__check_tie g_is_index C_Watch) := (pu_if pu_never pu_next)
/-- Watch.lengths -/
def bd_Watch_lengths  (C_Watch : Addr) : DS :=
  (sRet (dP (e1 (gFld C_Watch "_table") (eV 0))))
def N_Watch_lengths : List Str := ["self"]
def ev_Watch_lengths  (C_Watch : Addr) : EvS :=
  (zRet (e1 (gFld C_Watch "_table") (eV 0)))
theorem pu_Watch_lengths  {C_Watch : Addr} : Pu (bd_Watch_lengths  C_Watch) (ev_Watch_lengths  C_Watch) := pu_ret
/-- Watch.map -/
def bd_Watch_map (g_map_of : Mu → List D → Option D) (g_present : Mu → List D → Option D) (C_Watch : Addr) : DS :=
  (sRet (dP (eFn g_map_of [] 2 (eCons (e1 (gFld C_Watch "_many") (eV 0)) (eCons (eFn g_present [] 1 (eCons (e1 (gFld C_Watch "_ties") (eV 0)) eNil)) eNil)))))
def N_Watch_map : List Str := ["self"]
def ev_Watch_map (g_map_of : Mu → List D → Option D) (g_present : Mu → List D → Option D) (C_Watch : Addr) : EvS :=
  (zRet (eFn g_map_of [] 2 (eCons (e1 (gFld C_Watch "_many") (eV 0)) (eCons (eFn g_present [] 1 (eCons (e1 (gFld C_Watch "_ties") (eV 0)) eNil)) eNil))))
theorem pu_Watch_map {g_map_of : Mu → List D → Option D} {g_present : Mu → List D → Option D} {C_Watch : Addr} : Pu (bd_Watch_map g_map_of g_present C_Watch) (ev_Watch_map g_map_of g_present C_Watch) := pu_ret
/-- Watch.set_length -/
def bd_Watch_set_length (S_lengthened : DC) (S_shortened : DC) (g_Watch__check_tie : Mu → List D → Option D) (g_is_count : Mu → List D → Option D) (g_is_less : Mu → List D → Option D) (g_is_short : Mu → List D → Option D) (g_with_length : Mu → List D → Option D) (C_Watch : Addr) : DS :=
  (sSeq (sDrop (dMt C_Watch "_check_tie" (pN g_Watch__check_tie) 2 (dP (eV 0)) (dPA (eCons (eV 1) eNil)))) (sSeq (sIf (dPT (eAndT (eTst (e2 (gIs true) (eV 2) (eC .non))) (eNotT (eAndT (eTst (eFn g_is_count [] 1 (eCons (eV 2) eNil))) (eTst (eFn g_is_short [] 1 (eCons (eV 2) eNil))))))) sNever sNext) (sSeq (sPar 4 5 (dPA (eCons (e1 (gFld C_Watch "_ties") (eV 0)) (eCons (e1 (gFld C_Watch "_table") (eV 0)) eNil)))) (sSeq (sAsg (dP (e2 gIx (eV 4) (eV 1))) (dgTup 3 (dgCons (dgName 6) (dgCons (dgName 7) (dgCons (dgName 8) dgNil))))) (sSeq (sFldS C_Watch "_ties" (dP (eV 0)) (dP (eFn g_with_length [] 3 (eCons (eV 4) (eCons (eV 1) (eCons (eV 2) eNil)))))) (sSeq (sIf (dPT (eTst (eFn g_is_less [] 2 (eCons (eV 2) (eCons (eV 8) eNil))))) (sFldS C_Watch "_table" (dP (eV 0)) (dFn S_shortened [] 4 (dPA (eCons (eV 5) (eCons (eV 6) (eCons (eV 7) (eCons (eV 2) eNil))))))) (sFldS C_Watch "_table" (dP (eV 0)) (dFn S_lengthened [] 6 (dPA (eCons (e1 (gFld C_Watch "_many") (eV 0)) (eCons (eV 5) (eCons (e1 (gFld C_Watch "_ties") (eV 0)) (eCons (eV 6) (eCons (eV 7) (eCons (eV 8) eNil)))))))))) (sSeq (sAsg (dCall (pN gSumA) (dCons (dFz (dLc2 (iZp (dPA (eCons (eV 5) (eCons (e1 (gFld C_Watch "_table") (eV 0)) eNil)))) (dgTup 2 (dgCons (dgName 9) (dgCons (dgName 10) dgNil))) dYes (iZp (dPA (eCons (eV 9) (eCons (eV 10) eNil)))) (dgTup 2 (dgCons (dgName 11) (dgCons (dgName 12) dgNil))) dYes (dP (e2 (gEq true) (eV 11) (eV 12))) [9, 10, 11, 12] [11, 12])) (dPA eNil))) (dgName 3)) (sDrop (dBM fApp (dP (e1 (gFld C_Watch "_done") (eV 0))) (dPA (eCons (eN gTup (eCons (eV 1) (eCons (eV 2) (eCons (eV 3) (eCons (eN gTup (eCons (eV 4) (eCons (eV 5) eNil))) eNil))))) eNil)))))))))))
def N_Watch_set_length : List Str := ["self", "tie", "length", "pairs", "ties", "table", "a", "b", "before", "row", "after", "item", "other"]
/-- Watch.changes -/
def bd_Watch_changes  (C_Watch : Addr) : DS :=
  (sRet (dP (eLc (ipSeq (e1 (gFld C_Watch "_done") (eV 0))) (egName 1) eYes (eSl (eV 1) eNoPart (ePart (eC (.int 3)))) [1])))
def N_Watch_changes : List Str := ["self", "change"]
def ev_Watch_changes  (C_Watch : Addr) : EvS :=
  (zRet (eLc (ipSeq (e1 (gFld C_Watch "_done") (eV 0))) (egName 1) eYes (eSl (eV 1) eNoPart (ePart (eC (.int 3)))) [1]))
theorem pu_Watch_changes  {C_Watch : Addr} : Pu (bd_Watch_changes  C_Watch) (ev_Watch_changes  C_Watch) := pu_ret
/-- Watch.undo -/
def bd_Watch_undo  (C_Watch : Addr) : DS :=
  (sSeq (sIf (dPT (eTst (e2 (gEq false) (e1 (gFld C_Watch "_done") (eV 0)) (eN gLst eNil)))) sNever sNext) (sSeq (sAsg (dBM0 fPop (dP (e1 (gFld C_Watch "_done") (eV 0)))) (dgTup 4 (dgCons (dgName 1) (dgCons (dgName 2) (dgCons (dgName 3) (dgCons (dgName 4) dgNil)))))) (sAsg (dP (eV 4)) (dgTup 2 (dgCons (dgFld C_Watch "_ties" (dP (eV 0))) (dgCons (dgFld C_Watch "_table" (dP (eV 0))) dgNil))))))
def N_Watch_undo : List Str := ["self", "tie", "length", "pairs", "before"]
/-- Watch.enough -/
def bd_Watch_enough (g_Watch__check_tie : Mu → List D → Option D) (g_lengths_from : Mu → List D → Option D) (g_present : Mu → List D → Option D) (g_with_length : Mu → List D → Option D) (C_Watch : Addr) : DS :=
  (sSeq (sDrop (dMt C_Watch "_check_tie" (pN g_Watch__check_tie) 2 (dP (eV 0)) (dPA (eCons (eV 1) eNil)))) (sSeq (sAsg (dP (e2 gIx (e1 (gFld C_Watch "_ties") (eV 0)) (eV 1))) (dgTup 3 (dgCons (dgName 2) (dgCons (dgName 3) (dgCons (dgName 4) dgNil))))) (sRet (dP (e2 gIx (eFn g_lengths_from [] 3 (eCons (e1 (gFld C_Watch "_many") (eV 0)) (eCons (eFn g_present [] 1 (eCons (eFn g_with_length [] 3 (eCons (e1 (gFld C_Watch "_ties") (eV 0)) (eCons (eV 1) (eCons (eC .non) eNil)))) eNil)) (eCons (eV 2) eNil)))) (eV 3))))))
def N_Watch_enough : List Str := ["self", "tie", "a", "b", "before"]
/-- Watch.lines -/
def bd_Watch_lines  (C_Watch : Addr) : DS :=
  (sSeq (sAsg (dLstM (dPA (eStar (e1 (gFld C_Watch "_head") (eV 0)) (eCons (eC (.str "watch")) eNil)))) (dgName 1)) (sSeq (sFor (iSeq (dP (e1 (gFld C_Watch "_done") (eV 0)))) (dgTup 4 (dgCons (dgName 2) (dgCons (dgName 3) (dgCons (dgName 4) (dgCons (dgName 5) dgNil))))) (sGh (sDrop (dBM fApp (dP (eV 1)) (dPA (eCons (eIf (eTst (e2 (gIs false) (eV 3) (eC .non))) (eJs [(e1 gFmt (eC (.str "out"))), (eC (.str " ")), (e1 gFmt (eV 2))] Str.empty) (eJs [(e1 gFmt (eC (.str "length"))), (eC (.str " ")), (e1 gFmt (eV 2)), (eC (.str " ")), (e1 gFmt (eV 3))] Str.empty)) eNil)))))) (sRet (dP (eV 1)))))
def N_Watch_lines : List Str := ["self", "found", "tie", "length", "pairs", "before"]
/-- change_in -/
def bd_change_in (g_count_in : Mu → List D → Option D)  : DS :=
  (sSeq (sAsg (dP (e2 gSplit (eV 0) (eC (.str " ")))) (dgStar 2 1 (dgCons (dgName 1) (dgCons (dgName 2) dgNil)))) (sSeq (sIf (dPT (eAndT (eTst (e2 (gEq false) (eV 1) (eC (.str "out")))) (eTst (e2 (gEq false) (eN gLen (eCons (eV 2) eNil)) (eC (.int 1)))))) (sRet (dP (eN gTup (eCons (eFn g_count_in [] 2 (eCons (e2 gIx (eV 2) (eC (.int 0))) (eCons (eC (.int 3)) eNil))) (eCons (eC .non) eNil))))) sNext) (sSeq (sIf (dPT (eAndT (eTst (e2 (gEq false) (eV 1) (eC (.str "length")))) (eAndT (eTst (e2 (gEq false) (eN gLen (eCons (eV 2) eNil)) (eC (.int 2)))) (eTst (e2 (gIs true) (eFn g_count_in [.int 1000] 2 (eCons (e2 gIx (eV 2) (eC (.int 1))) eNil)) (eC .non)))))) (sRet (dP (eN gTup (eCons (eFn g_count_in [] 2 (eCons (e2 gIx (eV 2) (eC (.int 0))) (eCons (eC (.int 3)) eNil))) (eCons (eFn g_count_in [.int 1000] 2 (eCons (e2 gIx (eV 2) (eC (.int 1))) eNil)) eNil))))) sNext) (sRet (dP (eN gTup (eCons (eC .non) (eCons (eC .non) eNil))))))))
def N_change_in : List Str := ["line", "word", "words"]
def ev_change_in (g_count_in : Mu → List D → Option D)  : EvS :=
  (zSeq (zAsg (e2 gSplit (eV 0) (eC (.str " "))) (egStar 2 1 (egCons (egName 1) (egCons (egName 2) egNil)))) (zSeq (zIf (eAndT (eTst (e2 (gEq false) (eV 1) (eC (.str "out")))) (eTst (e2 (gEq false) (eN gLen (eCons (eV 2) eNil)) (eC (.int 1))))) (zRet (eN gTup (eCons (eFn g_count_in [] 2 (eCons (e2 gIx (eV 2) (eC (.int 0))) (eCons (eC (.int 3)) eNil))) (eCons (eC .non) eNil)))) zNext) (zSeq (zIf (eAndT (eTst (e2 (gEq false) (eV 1) (eC (.str "length")))) (eAndT (eTst (e2 (gEq false) (eN gLen (eCons (eV 2) eNil)) (eC (.int 2)))) (eTst (e2 (gIs true) (eFn g_count_in [.int 1000] 2 (eCons (e2 gIx (eV 2) (eC (.int 1))) eNil)) (eC .non))))) (zRet (eN gTup (eCons (eFn g_count_in [] 2 (eCons (e2 gIx (eV 2) (eC (.int 0))) (eCons (eC (.int 3)) eNil))) (eCons (eFn g_count_in [.int 1000] 2 (eCons (e2 gIx (eV 2) (eC (.int 1))) eNil)) eNil)))) zNext) (zRet (eN gTup (eCons (eC .non) (eCons (eC .non) eNil)))))))
theorem pu_change_in {g_count_in : Mu → List D → Option D}  : Pu (bd_change_in g_count_in ) (ev_change_in g_count_in ) := (pu_seq (pu_asg (ge_star (ge_cons ge_name (ge_cons ge_name ge_nil)))) (pu_seq (pu_if pu_ret pu_next) (pu_seq (pu_if pu_ret pu_next) pu_ret)))
/-- read_watch -/
def bd_read_watch (S_Watch_init : DC) (S_Watch_lines : DC) (S_Watch_set_length : DC) (g_change_in : Mu → List D → Option D) (g_is_list : Mu → List D → Option D) (g_read_map : Mu → List D → Option D) (C_Watch : Addr) : DS :=
  (sSeq (sIf (dPT (eOrT (eNotT (eTst (eFn g_is_list [] 1 (eCons (eV 0) eNil)))) (eOrT (eNotT (eTst (eN (gBls fun bs => bs.all id) (eCons (eLc (ipSeq (eV 0)) (egName 3) eYes (e1 (gIsi ["str"]) (eV 3)) [3]) eNil)))) (eTst (e2 (gIn true) (eC (.str "watch")) (eV 0)))))) sNever sNext) (sSeq (sAsg (dP (e2 gIndex (eN gList (eCons (eV 0) eNil)) (eC (.str "watch")))) (dgName 1)) (sSeq (sSeq (sAsg (dMake C_Watch S_Watch_init 2 (dPA (eCons (eFn g_read_map [] 1 (eCons (e2 gJoin (eC (.str "\n")) (eSl (eV 0) eNoPart (ePart (eV 1)))) eNil)) eNil))) (dgName 2)) (sFor (iSeq (dP (eSl (eV 0) (ePart (e2 gAdd (eV 1) (eC (.int 1)))) eNoPart))) (dgName 3) (sGh (sSeq (sAsg (dP (eFn g_change_in [] 1 (eCons (eV 3) eNil))) (dgTup 2 (dgCons (dgName 4) (dgCons (dgName 5) dgNil)))) (sDrop (dMt C_Watch "set_length" S_Watch_set_length 3 (dP (eV 2)) (dPA (eCons (eV 4) (eCons (eV 5) eNil))))))))) (sSeq (sIf (dTst (dOp (p2 (gEq true)) (dMt C_Watch "lines" S_Watch_lines 1 (dP (eV 2)) dNil) (dP (eN gList (eCons (eV 0) eNil))))) sNever sNext) (sRet (dP (eV 2)))))))
def N_read_watch : List Str := ["lines", "at", "found", "line", "tie", "length"]
/-- _law_cell -/
def bd__law_cell   : DS :=
  (sRet (dP (eIf (eTst (e2 (gCmpI fun i j => decide (i < j)) (eV 1) (eN gLen (eCons (eV 0) eNil)))) (e2 gIx (eV 0) (eV 1)) (e2 gAdd (e2 gMul (eC (.int 8663)) (eV 1)) (e2 gMod (eN gInt (eCons (eN gSumA (eCons (eSl (eV 0) eNoPart (ePart (eC (.int 1)))) eNil)) eNil)) (eC (.int 1000003)))))))
def N__law_cell : List Str := ["script", "k"]
def ev__law_cell   : EvS :=
  (zRet (eIf (eTst (e2 (gCmpI fun i j => decide (i < j)) (eV 1) (eN gLen (eCons (eV 0) eNil)))) (e2 gIx (eV 0) (eV 1)) (e2 gAdd (e2 gMul (eC (.int 8663)) (eV 1)) (e2 gMod (eN gInt (eCons (eN gSumA (eCons (eSl (eV 0) eNoPart (ePart (eC (.int 1)))) eNil)) eNil)) (eC (.int 1000003))))))
theorem pu__law_cell   : Pu (bd__law_cell  ) (ev__law_cell  ) := pu_ret
/-- _law_box -/
def bd__law_box   : DS :=
  (sRet (dLstM (dPA (eCons (eN gAbs (eCons (eV 0) eNil)) (eCons (e2 (gCmpI fun i j => decide (j ≤ i)) (eN gAbs (eCons (eV 0) eNil)) (e2 gPow (eC (.int 10)) (eC (.int 18)))) (eCons (e2 gMod (eN gInt (eCons (eN gAbs (eCons (eV 0) eNil)) eNil)) (eC (.int 2147483629))) (eCons (eC (.int 0)) eNil)))))))
def N__law_box : List Str := ["great"]
/-- _law_take -/
def bd__law_take   : DS :=
  (sSeq (sIf (dPT (eAndT (eTst (e2 gIx (eV 0) (eC (.int 1)))) (eTst (e2 (gCmpI fun i j => decide (j < i)) (e2 gIx (eV 0) (eC (.int 0))) (eC (.int 0)))))) (sSeq (sAsg (dP (e2 gMod (eN gInt (eCons (e2 gIx (eV 0) (eC (.int 0))) eNil)) (eV 1))) (dgName 3)) (sSeq (sAsg (dP (e2 gDiv (e2 gIx (eV 0) (eC (.int 0))) (eV 1))) (dgSub (dP (eV 0)) (dP (eC (.int 0))))) (sRet (dP (eV 3))))) sNext) (sSeq (sAsg (dP (e2 gAdd (e2 gIx (eV 0) (eC (.int 3))) (eC (.int 1)))) (dgSub (dP (eV 0)) (dP (eC (.int 3))))) (sSeq (sAsg (dP (e2 gMod (eN gInt (eCons (e2 gPow (e2 gAdd (e2 gAdd (e2 gIx (eV 0) (eC (.int 2))) (e2 gMul (eC (.int 15486059)) (e2 gIx (eV 0) (eC (.int 3))))) (eC (.int 179424929))) (eC (.int 5))) eNil)) (eC (.int 2147483647)))) (dgName 2)) (sRet (dP (e2 gMod (eN gInt (eCons (e2 gDiv (e2 gMod (eN gInt (eCons (e2 gPow (e2 gAdd (e2 gMul (eV 2) (eC (.int 48271))) (e2 gMul (eC (.int 8669)) (e2 gIx (eV 0) (eC (.int 3))))) (eC (.int 3))) eNil)) (eC (.int 2147483587))) (eC (.int 64))) eNil)) (eV 1)))))))
def N__law_take : List Str := ["box", "many", "mixed", "digit"]
/-- _law_mixed -/
def bd__law_mixed (S__law_take : DC)  : DS :=
  (sSeq (sPar 3 4 (dCons (dCall fListM (dPA (eCons (eV 1) eNil))) (dCons (dLstM (dPA eNil)) (dPA eNil)))) (sSeq (sFor (iRg1 (dPA (eCons (eN gLen (eCons (eV 1) eNil)) eNil))) (dgName 2) (sGh (sDrop (dBM fApp (dP (eV 4)) (dCons (dBM fPopAt (dP (eV 3)) (dCons (dFn S__law_take [] 2 (dPA (eCons (eV 0) (eCons (eN gLen (eCons (eV 3) eNil)) eNil)))) (dPA eNil))) (dPA eNil)))))) (sRet (dP (eV 4)))))
def N__law_mixed : List Str := ["box", "items", "k", "left", "found"]
/-- _law_same -/
def bd__law_same (g__law_same : Mu → List D → Option D)  : DS :=
  (sSeq (sIf (dPT (eOrT (eTst (e2 (gIs false) (eV 1) (eC .non))) (eTst (e1 (gIsi ["bool"]) (eV 1))))) (sRet (dP (eIf (eTst (e2 (gIs false) (eV 1) (eC .non))) (e2 (gIs false) (eV 0) (eC .non)) (eAnd (e1 (gIsi ["bool"]) (eV 0)) (e2 (gEq false) (e2 (gIs false) (eV 0) (eC (.bl true))) (e2 (gIs false) (eV 1) (eC (.bl true)))))))) sNext) (sSeq (sIf (dPT (eTst (e1 (gIsi ["int"]) (eV 1)))) (sRet (dP (eAnd (e1 (gIsi ["int"]) (eV 0)) (eAnd (eNot (e1 (gIsi ["bool"]) (eV 0))) (e2 (gEq false) (e2 (gArith fun i j => i - j) (eN gInt (eCons (eV 0) eNil)) (eV 1)) (eC (.int 0))))))) sNext) (sSeq (sIf (dPT (eTst (e1 (gIsi ["str"]) (eV 1)))) (sRet (dP (eAnd (e1 (gIsi ["str"]) (eV 0)) (eAnd (e2 (gEq false) (eN gLen (eCons (eV 0) eNil)) (eN gLen (eCons (eV 1) eNil))) (e2 (gEq false) (eLc (ipRg1 (eCons (eN gLen (eCons (eV 1) eNil)) eNil)) (egName 2) (eTst (e2 (gEq true) (eSl (eV 0) (ePart (eV 2)) (ePart (e2 gAdd (eV 2) (eC (.int 1))))) (e2 gIx (eV 1) (eV 2)))) (eV 2) [2]) (eN gLst eNil)))))) sNext) (sSeq (sIf (dPT (eTst (e1 (gIsi ["dict"]) (eV 1)))) sNever sNext) (sSeq (sIf (dPT (eOrT (eTst (e2 (gEq true) (e1 (gIsi ["list"]) (eV 0)) (e1 (gIsi ["list"]) (eV 1)))) (eTst (e2 (gEq true) (e1 (gIsi ["tuple"]) (eV 0)) (e1 (gIsi ["tuple"]) (eV 1)))))) (sRet (dP (eC (.bl false)))) sNext) (sRet (dP (eAnd (e2 (gEq false) (eN gLen (eCons (eV 0) eNil)) (eN gLen (eCons (eV 1) eNil))) (e2 (gEq false) (eLc (ipRg1 (eCons (eN gLen (eCons (eV 1) eNil)) eNil)) (egName 2) (eNotT (eTst (eFn g__law_same [] 2 (eCons (e2 gIx (eV 0) (eV 2)) (eCons (e2 gIx (eV 1) (eV 2)) eNil))))) (eV 2) [2]) (eN gLst eNil))))))))))
def N__law_same : List Str := ["given", "due", "k"]
def ev__law_same (g__law_same : Mu → List D → Option D)  : EvS :=
  (zSeq (zIf (eOrT (eTst (e2 (gIs false) (eV 1) (eC .non))) (eTst (e1 (gIsi ["bool"]) (eV 1)))) (zRet (eIf (eTst (e2 (gIs false) (eV 1) (eC .non))) (e2 (gIs false) (eV 0) (eC .non)) (eAnd (e1 (gIsi ["bool"]) (eV 0)) (e2 (gEq false) (e2 (gIs false) (eV 0) (eC (.bl true))) (e2 (gIs false) (eV 1) (eC (.bl true))))))) zNext) (zSeq (zIf (eTst (e1 (gIsi ["int"]) (eV 1))) (zRet (eAnd (e1 (gIsi ["int"]) (eV 0)) (eAnd (eNot (e1 (gIsi ["bool"]) (eV 0))) (e2 (gEq false) (e2 (gArith fun i j => i - j) (eN gInt (eCons (eV 0) eNil)) (eV 1)) (eC (.int 0)))))) zNext) (zSeq (zIf (eTst (e1 (gIsi ["str"]) (eV 1))) (zRet (eAnd (e1 (gIsi ["str"]) (eV 0)) (eAnd (e2 (gEq false) (eN gLen (eCons (eV 0) eNil)) (eN gLen (eCons (eV 1) eNil))) (e2 (gEq false) (eLc (ipRg1 (eCons (eN gLen (eCons (eV 1) eNil)) eNil)) (egName 2) (eTst (e2 (gEq true) (eSl (eV 0) (ePart (eV 2)) (ePart (e2 gAdd (eV 2) (eC (.int 1))))) (e2 gIx (eV 1) (eV 2)))) (eV 2) [2]) (eN gLst eNil))))) zNext) (zSeq (zIf (eTst (e1 (gIsi ["dict"]) (eV 1))) zNever zNext) (zSeq (zIf (eOrT (eTst (e2 (gEq true) (e1 (gIsi ["list"]) (eV 0)) (e1 (gIsi ["list"]) (eV 1)))) (eTst (e2 (gEq true) (e1 (gIsi ["tuple"]) (eV 0)) (e1 (gIsi ["tuple"]) (eV 1))))) (zRet (eC (.bl false))) zNext) (zRet (eAnd (e2 (gEq false) (eN gLen (eCons (eV 0) eNil)) (eN gLen (eCons (eV 1) eNil))) (e2 (gEq false) (eLc (ipRg1 (eCons (eN gLen (eCons (eV 1) eNil)) eNil)) (egName 2) (eNotT (eTst (eFn g__law_same [] 2 (eCons (e2 gIx (eV 0) (eV 2)) (eCons (e2 gIx (eV 1) (eV 2)) eNil))))) (eV 2) [2]) (eN gLst eNil)))))))))
theorem pu__law_same {g__law_same : Mu → List D → Option D}  : Pu (bd__law_same g__law_same ) (ev__law_same g__law_same ) := (pu_seq (pu_if pu_ret pu_next) (pu_seq (pu_if pu_ret pu_next) (pu_seq (pu_if pu_ret pu_next) (pu_seq (pu_if pu_never pu_next) (pu_seq (pu_if pu_ret pu_next) pu_ret)))))
/-- _law_long -/
def bd__law_long (S__law_take : DC)  : DS :=
  (sSeq (sAsg (dP (eC (.int 0))) (dgName 1)) (sSeq (sFor (iRg1 (dPA (eCons (eC (.int 7)) eNil))) (dgName 2) (sGh (sAsg (dOp (p2 gAdd) (dP (e2 gMul (eV 1) (e2 gPow (eC (.int 10)) (eC (.int 6))))) (dFn S__law_take [] 2 (dPA (eCons (eV 0) (eCons (e2 gPow (eC (.int 10)) (eC (.int 6))) eNil))))) (dgName 1)))) (sRet (dP (e2 gAdd (eC (.int 1)) (e2 gMod (eN gInt (eCons (eV 1) eNil)) (e2 gMul (eC (.int 4)) (e2 gPow (eC (.int 10)) (eC (.int 38))))))))))
def N__law_long : List Str := ["box", "found", "k"]
/-- _law_two -/
def bd__law_two (S__law_take : DC)  : DS :=
  (sSeq (sAsg (dFn S__law_take [] 2 (dPA (eCons (eV 0) (eCons (eV 1) eNil)))) (dgName 2)) (sRet (dTup (dCons (dP (eV 2)) (dCons (dOp (p2 gMod) (dCall (pN gInt) (dCons (dOp (p2 gAdd) (dP (e2 gAdd (eV 2) (eC (.int 1)))) (dFn S__law_take [] 2 (dPA (eCons (eV 0) (eCons (e2 (gArith fun i j => i - j) (eV 1) (eC (.int 1))) eNil))))) (dPA eNil))) (dP (eV 1))) (dPA eNil))))))
def N__law_two : List Str := ["box", "many", "a"]
/-- _law_roads -/
def bd__law_roads (S__law_mixed : DC) (S__law_take : DC) (S__law_two : DC)  : DS :=
  (sSeq (sAsg (dIf (dPT (eTst (eV 1))) (dP (eC (.int 20))) (dOp (p2 gAdd) (dP (eC (.int 2))) (dFn S__law_take [] 2 (dPA (eCons (eV 0) (eCons (eC (.int 7)) eNil)))))) (dgName 3)) (sSeq (sAsg (dTup (dCons (dIf (dPT (eTst (eV 1))) (dOp (p2 gAdd) (dP (eC (.int 100))) (dFn S__law_take [] 2 (dPA (eCons (eV 0) (eCons (eC (.int 21)) eNil))))) (dOp (p2 gAdd) (dP (e2 gAdd (eV 3) (eC (.int 1)))) (dFn S__law_take [] 2 (dPA (eCons (eV 0) (eCons (eC (.int 9)) eNil)))))) (dCons (dFn S__law_take [] 2 (dPA (eCons (eV 0) (eCons (eC (.int 3)) eNil)))) (dCons (dFn S__law_mixed [] 2 (dPA (eCons (eV 0) (eCons (e1 (fun μ x => gRg μ [x]) (eV 3)) eNil)))) (dPA eNil))))) (dgTup 3 (dgCons (dgName 6) (dgCons (dgName 7) (dgCons (dgName 8) dgNil))))) (sSeq (sAsg (dMut (dLc (iRg1 (dPA (eCons (eV 3) eNil))) (dgName 5) dYes (dTup (dCons (dP (e2 gIx (eV 8) (eV 5))) (dCons (dP (e2 gIx (eV 8) (eIf (eTst (e2 (gCmpI fun i j => decide (i < j)) (e2 gAdd (eV 5) (eC (.int 1))) (eV 3))) (e2 gAdd (eV 5) (eC (.int 1))) (eC (.int 0))))) (dCons (dOp (p2 gMul) (dP (eV 2)) (dFn S__law_take [] 2 (dPA (eCons (eV 0) (eCons (e2 gIx (eN gLst (eCons (eC (.int 3)) (eCons (eC (.int 6)) (eCons (eC (.int 10)) eNil)))) (eV 7)) eNil))))) (dPA eNil))))) [5])) (dgName 4)) (sSeq (sFor (iRg1 (dPA (eCons (eN gMax (eCons (eC (.int 0)) (eCons (e2 (gArith fun i j => i - j) (eV 6) (eV 3)) eNil))) eNil))) (dgName 5) (sGh (sSeq (sAsg (dFn S__law_two [] 2 (dPA (eCons (eV 0) (eCons (eV 3) eNil)))) (dgTup 2 (dgCons (dgName 9) (dgCons (dgName 10) dgNil)))) (sDrop (dBM fApp (dP (eV 4)) (dCons (dTup (dCons (dP (eV 9)) (dCons (dP (eV 10)) (dCons (dOp (p2 gMul) (dP (eV 2)) (dFn S__law_take [] 2 (dPA (eCons (eV 0) (eCons (e2 gIx (eN gLst (eCons (eC (.int 3)) (eCons (eC (.int 6)) (eCons (eC (.int 10)) eNil)))) (eV 7)) eNil))))) (dPA eNil))))) (dPA eNil))))))) (sRet (dP (eN gTup (eCons (eV 3) (eCons (eN gTuple (eCons (eN gSorted (eCons (eV 4) eNil)) eNil)) eNil)))))))))
def N__law_roads : List Str := ["box", "wide", "unit", "many", "ties", "k", "count", "most", "places", "a", "b"]
/-- _law_row -/
def bd__law_row   : DS :=
  (sSeq (sAsg (dOp fMulM (dLstM (dPA (eCons (eC .non) eNil))) (dP (eV 0))) (dgName 3)) (sSeq (sAsg (dP (eC (.int 0))) (dgSub (dP (eV 3)) (dP (eV 2)))) (sSeq (sFor (iRg1 (dPA (eCons (eV 0) eNil))) (dgName 4) (sGh (sSeq (sAsg (dP (eC (.bl false))) (dgName 5)) (sSeq (sFor (iSeq (dP (eV 1))) (dgTup 3 (dgCons (dgName 6) (dgCons (dgName 7) (dgCons (dgName 8) dgNil)))) (sGh (sIf (dPT (eAndT (eTst (e2 (gIs true) (e2 gIx (eV 3) (eV 6)) (eC .non))) (eOrT (eTst (e2 (gIs false) (e2 gIx (eV 3) (eV 7)) (eC .non))) (eTst (e2 (gCmpI fun i j => decide (i < j)) (e2 gAdd (e2 gIx (eV 3) (eV 6)) (eV 8)) (e2 gIx (eV 3) (eV 7))))))) (sAsg (dP (eN gTup (eCons (e2 gAdd (e2 gIx (eV 3) (eV 6)) (eV 8)) (eCons (eC (.bl true)) eNil)))) (dgTup 2 (dgCons (dgSub (dP (eV 3)) (dP (eV 7))) (dgCons (dgName 5) dgNil)))) sNext))) (sIf (dPT (eNotT (eTst (eV 5)))) sBrk sNext))))) (sRet (dP (eN gTuple (eCons (eV 3) eNil)))))))
def N__law_row : List Str := ["many", "ties", "one", "row", "turn", "changed", "a", "b", "length"]
/-- _law_lengths -/
def bd__law_lengths (g__law_row : Mu → List D → Option D)  : DS :=
  (sRet (dP (eN gTuple (eCons (eLc (ipRg1 (eCons (eV 0) eNil)) (egName 2) eYes (eFn g__law_row [] 3 (eCons (eV 0) (eCons (eV 1) (eCons (eV 2) eNil)))) [2]) eNil))))
def N__law_lengths : List Str := ["many", "ties", "one"]
def ev__law_lengths (g__law_row : Mu → List D → Option D)  : EvS :=
  (zRet (eN gTuple (eCons (eLc (ipRg1 (eCons (eV 0) eNil)) (egName 2) eYes (eFn g__law_row [] 3 (eCons (eV 0) (eCons (eV 1) (eCons (eV 2) eNil)))) [2]) eNil)))
theorem pu__law_lengths {g__law_row : Mu → List D → Option D}  : Pu (bd__law_lengths g__law_row ) (ev__law_lengths g__law_row ) := pu_ret
/-- _law_map_now -/
def bd__law_map_now   : DS :=
  (sRet (dP (eN gTup (eCons (e2 gIx (eV 0) (eC (.int 0))) (eCons (eN gTuple (eCons (eN gSorted (eCons (eLc (ipRg1 (eCons (eN gLen (eCons (eV 1) eNil)) eNil)) (egName 2) (eTst (e2 (gIs true) (e2 gIx (eV 1) (eV 2)) (eC .non))) (eN gTup (eCons (e2 gIx (e2 gIx (e2 gIx (eV 0) (eC (.int 1))) (eV 2)) (eC (.int 0))) (eCons (e2 gIx (e2 gIx (e2 gIx (eV 0) (eC (.int 1))) (eV 2)) (eC (.int 1))) (eCons (e2 gIx (eV 1) (eV 2)) eNil)))) [2]) eNil)) eNil)) eNil)))))
def N__law_map_now : List Str := ["roads", "now", "k"]
def ev__law_map_now   : EvS :=
  (zRet (eN gTup (eCons (e2 gIx (eV 0) (eC (.int 0))) (eCons (eN gTuple (eCons (eN gSorted (eCons (eLc (ipRg1 (eCons (eN gLen (eCons (eV 1) eNil)) eNil)) (egName 2) (eTst (e2 (gIs true) (e2 gIx (eV 1) (eV 2)) (eC .non))) (eN gTup (eCons (e2 gIx (e2 gIx (e2 gIx (eV 0) (eC (.int 1))) (eV 2)) (eC (.int 0))) (eCons (e2 gIx (e2 gIx (e2 gIx (eV 0) (eC (.int 1))) (eV 2)) (eC (.int 1))) (eCons (e2 gIx (eV 1) (eV 2)) eNil)))) [2]) eNil)) eNil)) eNil))))
theorem pu__law_map_now   : Pu (bd__law_map_now  ) (ev__law_map_now  ) := pu_ret
/-- _law_bounded -/
def bd__law_bounded   : DS :=
  (sSeq (sFor (iRg1 (dPA (eCons (eN gLen (eCons (eV 0) eNil)) eNil))) (dgName 4) (sGh (sFor (iRg1 (dPA (eCons (eN gLen (eCons (eV 0) eNil)) eNil))) (dgName 5) (sGh (sSeq (sPar 6 7 (dPA (eCons (e2 gIx (e2 gIx (eV 1) (eV 4)) (eV 5)) (eCons (e2 gIx (e2 gIx (eV 0) (eV 4)) (eV 5)) eNil)))) (sSeq (sIf (dPT (eOrT (eTst (e2 (gIs false) (eV 2) (eC .non))) (eAndT (eTst (e2 (gIs true) (eV 3) (eC .non))) (eTst (e2 (gCmpI fun i j => decide (i < j)) (eV 3) (eV 2)))))) (sPar 6 7 (dPA (eCons (eV 7) (eCons (eV 6) eNil)))) sNext) (sIf (dPT (eAndT (eTst (e2 (gIs false) (eV 6) (eC .non))) (eAndT (eTst (e2 (gIs true) (eV 3) (eC .non))) (eTst (e2 (gIs true) (eV 2) (eC .non)))))) (sIf (dPT (eTst (e2 (gIs true) (eV 7) (eC .non)))) (sRet (dP (eC (.bl false)))) sNext) (sIf (dPT (eAndT (eTst (e2 (gIs true) (eV 6) (eC .non))) (eOrT (eTst (e2 (gIs false) (eV 7) (eC .non))) (eTst (e2 (gCmpI fun i j => decide (i < j)) (eV 6) (eV 7)))))) (sRet (dP (eC (.bl false)))) (sIf (dPT (eAndT (eTst (e2 (gIs true) (eV 6) (eC .non))) (eAndT (eTst (e2 (gIs true) (eV 3) (eC .non))) (eAndT (eTst (e2 (gIs true) (eV 2) (eC .non))) (eTst (e2 (gCmpI fun i j => decide (j < i)) (e2 (gArith fun i j => i - j) (eV 6) (eV 7)) (eN gAbs (eCons (e2 (gArith fun i j => i - j) (eV 3) (eV 2)) eNil)))))))) (sRet (dP (eC (.bl false)))) sNext))))))))) (sRet (dP (eC (.bl true)))))
def N__law_bounded : List Str := ["before", "after", "old", "new", "one", "other", "low", "high"]
def ev__law_bounded   : EvS :=
  (zSeq (zFor (ipRg1 (eCons (eN gLen (eCons (eV 0) eNil)) eNil)) (egName 4) (zFor (ipRg1 (eCons (eN gLen (eCons (eV 0) eNil)) eNil)) (egName 5) (zSeq (zPar 6 7 (eCons (e2 gIx (e2 gIx (eV 1) (eV 4)) (eV 5)) (eCons (e2 gIx (e2 gIx (eV 0) (eV 4)) (eV 5)) eNil))) (zSeq (zIf (eOrT (eTst (e2 (gIs false) (eV 2) (eC .non))) (eAndT (eTst (e2 (gIs true) (eV 3) (eC .non))) (eTst (e2 (gCmpI fun i j => decide (i < j)) (eV 3) (eV 2))))) (zPar 6 7 (eCons (eV 7) (eCons (eV 6) eNil))) zNext) (zIf (eAndT (eTst (e2 (gIs false) (eV 6) (eC .non))) (eAndT (eTst (e2 (gIs true) (eV 3) (eC .non))) (eTst (e2 (gIs true) (eV 2) (eC .non))))) (zIf (eTst (e2 (gIs true) (eV 7) (eC .non))) (zRet (eC (.bl false))) zNext) (zIf (eAndT (eTst (e2 (gIs true) (eV 6) (eC .non))) (eOrT (eTst (e2 (gIs false) (eV 7) (eC .non))) (eTst (e2 (gCmpI fun i j => decide (i < j)) (eV 6) (eV 7))))) (zRet (eC (.bl false))) (zIf (eAndT (eTst (e2 (gIs true) (eV 6) (eC .non))) (eAndT (eTst (e2 (gIs true) (eV 3) (eC .non))) (eAndT (eTst (e2 (gIs true) (eV 2) (eC .non))) (eTst (e2 (gCmpI fun i j => decide (j < i)) (e2 (gArith fun i j => i - j) (eV 6) (eV 7)) (eN gAbs (eCons (e2 (gArith fun i j => i - j) (eV 3) (eV 2)) eNil))))))) (zRet (eC (.bl false))) zNext))))))) (zRet (eC (.bl true))))
theorem pu__law_bounded   : Pu (bd__law_bounded  ) (ev__law_bounded  ) := (pu_seq (pu_for src_rg1 ge_name (pu_gh (pu_for src_rg1 ge_name (pu_gh (pu_seq pu_par (pu_seq (pu_if pu_par pu_next) (pu_if (pu_if pu_ret pu_next) (pu_if pu_ret (pu_if pu_ret pu_next))))))))) pu_ret)
/-- _law_as_anew -/
def bd__law_as_anew (S_Watch_init : DC) (g_Watch_lengths : Mu → List D → Option D) (g_Watch_map : Mu → List D → Option D) (g__law_map_now : Mu → List D → Option D) (g__law_same : Mu → List D → Option D) (g_lengths : Mu → List D → Option D) (C_Watch : Addr) : DS :=
  (sSeq (sAsg (dMt C_Watch "map" (pN g_Watch_map) 1 (dP (eV 0)) dNil) (dgName 4)) (sSeq (sIf (dOrT (dPT (eNotT (eTst (eFn g__law_same [] 2 (eCons (eV 4) (eCons (eFn g__law_map_now [] 2 (eCons (eV 1) (eCons (eV 2) eNil))) eNil)))))) (dNotT (dTst (dFn (pN g__law_same) [] 2 (dCons (dMt C_Watch "lengths" (pN g_Watch_lengths) 1 (dP (eV 0)) dNil) (dPA (eCons (eV 3) eNil))))))) (sRet (dP (eC (.bl false)))) sNext) (sRet (dAndV (dFn (pN g__law_same) [] 2 (dCons (dMt C_Watch "lengths" (pN g_Watch_lengths) 1 (dMake C_Watch S_Watch_init 2 (dPA (eCons (eV 4) eNil))) dNil) (dPA (eCons (eV 3) eNil)))) (dP (eFn g__law_same [] 2 (eCons (eFn g_lengths [] 1 (eCons (eV 4) eNil)) (eCons (eV 3) eNil))))))))
def N__law_as_anew : List Str := ["watch", "roads", "now", "due", "here"]
/-- _law_enough_right -/
def bd__law_enough_right (S_Watch_enough : DC) (S_Watch_set_length : DC) (S_Watch_undo : DC) (S__law_take : DC) (g_Watch_lengths : Mu → List D → Option D) (g__law_lengths : Mu → List D → Option D) (g__law_map_now : Mu → List D → Option D) (g__law_same : Mu → List D → Option D) (C_Watch : Addr) : DS :=
  (sSeq (sAsg (dFn S__law_take [] 2 (dPA (eCons (eV 0) (eCons (eN gLen (eCons (eV 3) eNil)) eNil)))) (dgName 4)) (sSeq (sPar3 8 9 10 (dCons (dMt C_Watch "enough" S_Watch_enough 2 (dP (eV 1)) (dPA (eCons (eV 4) eNil))) (dCons (dP (e2 gIx (e2 gIx (e2 gIx (eV 2) (eC (.int 1))) (eV 4)) (eC (.int 0)))) (dCons (dMt C_Watch "lengths" (pN g_Watch_lengths) 1 (dP (eV 1)) dNil) (dPA eNil))))) (sSeq (sIf (dPT (eAndT (eTst (e2 (gIs true) (eV 8) (eC .non))) (eOrT (eNotT (eTst (e1 (gIsi ["int"]) (eV 8)))) (eOrT (eTst (e1 (gIsi ["bool"]) (eV 8))) (eTst (e2 (gCmpI fun i j => decide (i < j)) (eV 8) (eC (.int 0)))))))) (sRet (dP (eC (.bl false)))) sNext) (sSeq (sAsg (dLstM (dPA eNil)) (dgName 5)) (sSeq (sFor (iSeq (dP (eIf (eTst (e2 (gIs false) (eV 8) (eC .non))) (eN gLst (eCons (eC .non) (eCons (eC (.int 5)) (eCons (eC (.int 6)) eNil)))) (e2 gAdd (eN gLst (eCons (eC .non) (eCons (eV 8) (eCons (e2 gAdd (eV 8) (eC (.int 1))) (eCons (e2 gAdd (e2 gMul (eC (.int 3)) (eV 8)) (eC (.int 7))) eNil))))) (eIf (eTst (e2 (gCmpI fun i j => decide (j < i)) (eV 8) (eC (.int 0)))) (eN gLst (eCons (e2 (gArith fun i j => i - j) (eV 8) (eC (.int 1))) eNil)) (eN gLst eNil)))))) (dgName 6) (sGh (sSeq (sIf (dTst (dOp (p2 (gIs true)) (dMt C_Watch "set_length" S_Watch_set_length 3 (dP (eV 1)) (dPA (eCons (eV 4) (eCons (eV 6) eNil)))) (dP (eC .non)))) (sRet (dP (eC (.bl false)))) sNext) (sSeq (sDrop (dBM fApp (dP (eV 5)) (dCons (dMt C_Watch "lengths" (pN g_Watch_lengths) 1 (dP (eV 1)) dNil) (dPA eNil)))) (sIf (dOrT (dTst (dOp (p2 (gEq true)) (dMt C_Watch "enough" S_Watch_enough 2 (dP (eV 1)) (dPA (eCons (eV 4) eNil))) (dP (eV 8)))) (dTst (dOp (p2 (gIs true)) (dMt C_Watch "undo" S_Watch_undo 1 (dP (eV 1)) dNil) (dP (eC .non))))) (sRet (dP (eC (.bl false)))) sNext))))) (sSeq (sAsg (dP (eLc (ipRg1 (eCons (eN gLen (eCons (eV 3) eNil)) eNil)) (egName 11) eYes (eIf (eTst (e2 (gEq true) (eV 11) (eV 4))) (e2 gIx (eV 3) (eV 11)) (eC .non)) [11])) (dgName 7)) (sSeq (sIf (dOrT (dPT (eNotT (eTst (eFn g__law_same [] 2 (eCons (e2 gIx (eV 5) (eC (.int 0))) (eCons (eFn g__law_lengths [] 2 (eCons (e2 gIx (eV 2) (eC (.int 0))) (eCons (e2 gIx (eFn g__law_map_now [] 2 (eCons (eV 2) (eCons (eV 7) eNil))) (eC (.int 1))) eNil))) eNil)))))) (dNotT (dTst (dFn (pN g__law_same) [] 2 (dCons (dMt C_Watch "lengths" (pN g_Watch_lengths) 1 (dP (eV 1)) dNil) (dPA (eCons (eV 10) eNil))))))) (sRet (dP (eC (.bl false)))) sNext) (sSeq (sIf (dPT (eTst (e2 (gIs false) (eV 8) (eC .non)))) (sRet (dP (eAnd (e2 (gEq true) (e2 gIx (e2 gIx (eV 5) (eC (.int 0))) (eV 9)) (e2 gIx (e2 gIx (eV 5) (eC (.int 1))) (eV 9))) (e2 (gEq true) (e2 gIx (e2 gIx (eV 5) (eC (.int 1))) (eV 9)) (e2 gIx (e2 gIx (eV 5) (eC (.int 2))) (eV 9)))))) sNext) (sSeq (sIf (dPT (eTst (e2 (gEq true) (eLc (ipSeq (eSl (eV 5) (ePart (eC (.int 1))) (ePart (eC (.int 4))))) (egName 12) (eNotT (eTst (eFn g__law_same [] 2 (eCons (eV 12) (eCons (e2 gIx (eV 5) (eC (.int 0))) eNil))))) (eV 12) [12]) (eN gLst eNil)))) (sRet (dP (eC (.bl false)))) sNext) (sRet (dP (eOr (e2 (gEq false) (eV 8) (eC (.int 0))) (e2 (gEq true) (e2 gIx (e2 gIx (eV 5) (eC (.int 4))) (eV 9)) (e2 gIx (e2 gIx (eV 5) (eC (.int 0))) (eV 9)))))))))))))))
def N__law_enough_right : List Str := ["box", "watch", "roads", "now", "tie", "found", "length", "rest", "bound", "one", "before", "k", "some"]
/-- _law_life_right -/
def bd__law_life_right (S_Watch_init : DC) (S_Watch_lines : DC) (S_Watch_set_length : DC) (S_Watch_undo : DC) (S__law_as_anew : DC) (S__law_enough_right : DC) (S__law_mixed : DC) (S__law_take : DC) (S_read_watch : DC) (g_Watch_changes : Mu → List D → Option D) (g_Watch_lengths : Mu → List D → Option D) (g_Watch_map : Mu → List D → Option D) (g__law_bounded : Mu → List D → Option D) (g__law_lengths : Mu → List D → Option D) (g__law_map_now : Mu → List D → Option D) (g__law_same : Mu → List D → Option D) (C_Watch : Addr) : DS :=
  (sSeq (sPar3 9 10 11 (dCons (dIf (dPT (eTst (eV 4))) (dMakeK C_Watch S_Watch_init 1 2 (dCons (dP (eV 1)) dNil)) (dMake C_Watch S_Watch_init 2 (dPA (eCons (eV 1) eNil)))) (dCons (dMut (dLc (iSeq (dP (e2 gIx (eV 1) (eC (.int 1))))) (dgName 17) dYes (dP (e2 gIx (eV 17) (eC (.int 2)))) [17])) (dCons (dLstM (dPA eNil)) (dPA eNil))))) (sSeq (sAsg (dLstM (dPA (eCons (eFn g__law_lengths [] 2 (eCons (e2 gIx (eV 1) (eC (.int 0))) (eCons (e2 gIx (eV 1) (eC (.int 1))) eNil))) eNil))) (dgName 5)) (sSeq (sIf (dNotT (dTst (dFn S__law_as_anew [] 4 (dPA (eCons (eV 9) (eCons (eV 1) (eCons (eV 10) (eCons (e2 gIx (eV 5) (eC (.int 0))) eNil)))))))) (sRet (dP (eC (.bl false)))) sNext) (sSeq (sFor (iRg1 (dPA (eCons (eV 2) eNil))) (dgName 6) (sGh (sSeq (sPar 17 18 (dCons (dFn S__law_take [] 2 (dPA (eCons (eV 0) (eCons (eN gLen (eCons (eV 10) eNil)) eNil)))) (dCons (dFn S__law_take [] 2 (dPA (eCons (eV 0) (eCons (eC (.int 8)) eNil)))) (dPA eNil)))) (sSeq (sAsg (dP (e2 gIx (eV 10) (eV 17))) (dgName 12)) (sSeq (sAsg (dP (eIf (eTst (e2 (gIs true) (eV 12) (eC .non))) (eV 12) (e2 gMul (eC (.int 4)) (eV 3)))) (dgName 13)) (sSeq (sAsg (dOp (p2 gIx) (dLst (dCons (dP (eC (.int 0))) (dCons (dP (e2 gAdd (eV 13) (eV 3))) (dCons (dP (eN gMax (eCons (eC (.int 0)) (eCons (e2 (gArith fun i j => i - j) (eV 13) (eV 3)) eNil)))) (dCons (dP (eC .non)) (dCons (dOp (p2 gMul) (dP (eV 3)) (dFn S__law_take [] 2 (dPA (eCons (eV 0) (eCons (eC (.int 12)) eNil))))) (dPA (eCons (e2 gAdd (eV 13) (eC (.int 1))) (eCons (eN gMax (eCons (eC (.int 0)) (eCons (e2 (gArith fun i j => i - j) (eV 13) (eC (.int 1))) eNil))) (eCons (eV 13) eNil)))))))))) (dP (eV 18))) (dgName 14)) (sSeq (sAsg (dP (eV 14)) (dgSub (dP (eV 10)) (dP (eV 17)))) (sSeq (sIf (dTst (dOp (p2 (gIs true)) (dIf (dPT (eTst (eV 4))) (dMtK C_Watch "set_length" S_Watch_set_length 2 3 (dP (eV 9)) (dCons (dP (eV 17)) (dCons (dP (eV 14)) dNil))) (dMt C_Watch "set_length" S_Watch_set_length 3 (dP (eV 9)) (dPA (eCons (eV 17) (eCons (eV 14) eNil))))) (dP (eC .non)))) (sRet (dP (eC (.bl false)))) sNext) (sSeq (sDrop (dBM fApp (dP (eV 5)) (dPA (eCons (eFn g__law_lengths [] 2 (eCons (e2 gIx (eV 1) (eC (.int 0))) (eCons (e2 gIx (eFn g__law_map_now [] 2 (eCons (eV 1) (eCons (eV 10) eNil))) (eC (.int 1))) eNil))) eNil)))) (sSeq (sAsg (dMt C_Watch "lengths" (pN g_Watch_lengths) 1 (dP (eV 9)) dNil) (dgName 15)) (sSeq (sDrop (dBM fApp (dP (eV 11)) (dPA (eCons (eN gLst (eCons (eV 15) (eCons (eN gRepr (eCons (e2 gIx (eV 5) (e1 gNeg (eC (.int 1)))) eNil)) eNil))) eNil)))) (sSeq (sIf (dPT (eOrT (eNotT (eTst (eFn g__law_same [] 2 (eCons (eV 15) (eCons (e2 gIx (eV 5) (e1 gNeg (eC (.int 1)))) eNil))))) (eNotT (eTst (eFn g__law_bounded [] 4 (eCons (e2 gIx (eV 5) (e1 gNeg (eC (.int 2)))) (eCons (eV 15) (eCons (eV 12) (eCons (eV 14) eNil))))))))) (sRet (dP (eC (.bl false)))) sNext) (sIf (dAndT (dPT (eTst (e2 (gEq false) (e2 gMod (eV 6) (eC (.int 6))) (eC (.int 0))))) (dOrT (dNotT (dTst (dFn S__law_as_anew [] 4 (dPA (eCons (eV 9) (eCons (eV 1) (eCons (eV 10) (eCons (e2 gIx (eV 5) (e1 gNeg (eC (.int 1)))) eNil)))))))) (dNotT (dTst (dFn S__law_enough_right [] 4 (dPA (eCons (eV 0) (eCons (eV 9) (eCons (eV 1) (eCons (eV 10) eNil)))))))))) (sRet (dP (eC (.bl false)))) sNext))))))))))))) (sSeq (sFor (iRg1 (dPA (eCons (eC (.int 2)) eNil))) (dgName 7) (sGh (sSeq (sAsg (dMake C_Watch S_Watch_init 2 (dPA (eCons (eV 1) eNil))) (dgName 16)) (sSeq (sFor (iSeq (dFn S__law_mixed [] 2 (dPA (eCons (eV 0) (eCons (e1 (fun μ x => gRg μ [x]) (eN gLen (eCons (eV 10) eNil))) eNil))))) (dgName 17) (sGh (sIf (dTst (dOp (p2 (gIs true)) (dMt C_Watch "set_length" S_Watch_set_length 3 (dP (eV 16)) (dPA (eCons (eV 17) (eCons (e2 gIx (eV 10) (eV 17)) eNil)))) (dP (eC .non)))) (sRet (dP (eC (.bl false)))) sNext))) (sIf (dNotT (dTst (dFn (pN g__law_same) [] 2 (dCons (dMt C_Watch "lengths" (pN g_Watch_lengths) 1 (dP (eV 16)) dNil) (dPA (eCons (e2 gIx (eV 5) (e1 gNeg (eC (.int 1)))) eNil)))))) (sRet (dP (eC (.bl false)))) sNext))))) (sSeq (sAsg (dFn S_read_watch [] 1 (dCons (dMt C_Watch "lines" S_Watch_lines 1 (dP (eV 9)) dNil) (dPA eNil))) (dgName 8)) (sSeq (sFor (iRg1 (dPA (eCons (eV 2) eNil))) (dgName 6) (sGh (sSeq (sDrop (dBM0 fPop (dP (eV 5)))) (sFor (iSeq (dP (eN gLst (eCons (eV 9) (eCons (eV 8) eNil))))) (dgName 13) (sGh (sIf (dOrT (dTst (dOp (p2 (gIs true)) (dMt C_Watch "undo" S_Watch_undo 1 (dP (eV 13)) dNil) (dP (eC .non)))) (dNotT (dTst (dFn (pN g__law_same) [] 2 (dCons (dMt C_Watch "lengths" (pN g_Watch_lengths) 1 (dP (eV 13)) dNil) (dPA (eCons (e2 gIx (eV 5) (e1 gNeg (eC (.int 1)))) eNil))))))) (sRet (dP (eC (.bl false)))) sNext)))))) (sSeq (sIf (dNotT (dTst (dFn (pN g__law_same) [] 2 (dCons (dLst (dCons (dMt C_Watch "map" (pN g_Watch_map) 1 (dP (eV 9)) dNil) (dCons (dMt C_Watch "map" (pN g_Watch_map) 1 (dP (eV 8)) dNil) (dCons (dMt C_Watch "changes" (pN g_Watch_changes) 1 (dP (eV 9)) dNil) (dCons (dMt C_Watch "changes" (pN g_Watch_changes) 1 (dP (eV 8)) dNil) (dPA eNil)))))) (dPA (eCons (eN gLst (eCons (eV 1) (eCons (eV 1) (eCons (eN gLst eNil) (eCons (eN gLst eNil) eNil))))) eNil)))))) (sRet (dP (eC (.bl false)))) sNext) (sRet (dP (e2 (gEq false) (eLc (ipSeq (eV 11)) (egUnl 2 (egCons (egName 15) (egCons (egName 19) egNil))) (eTst (e2 (gEq true) (eN gRepr (eCons (eV 15) eNil)) (eV 19))) (eC (.int 1)) [15, 19]) (eN gLst eNil))))))))))))
def N__law_life_right : List Str := ["box", "roads", "many", "unit", "by_name", "states", "k", "turn", "twin", "watch", "now", "held", "old", "some", "new", "told", "other", "tie", "way", "text"]
/-- law -/
def bd_law (S__law_box : DC) (S__law_life_right : DC) (S__law_long : DC) (S__law_roads : DC) (S__law_take : DC) (g__law_cell : Mu → List D → Option D)  : DS :=
  (sSeq (sFor (iRg1 (dPA (eCons (eN gMax (eCons (eC (.int 2)) (eCons (eN gMin (eCons (eC (.int 3)) (eCons (eN gLen (eCons (eV 0) eNil)) eNil))) eNil))) eNil))) (dgName 1) (sGh (sSeq (sAsg (dFn S__law_box [] 1 (dPA (eCons (eFn g__law_cell [] 2 (eCons (eV 0) (eCons (eV 1) eNil))) eNil))) (dgName 2)) (sSeq (sPar3 5 6 7 (dCons (dOp (p2 (gEq false)) (dFn S__law_take [] 2 (dPA (eCons (eV 2) (eCons (eC (.int 8)) eNil)))) (dP (eC (.int 0)))) (dCons (dOp (p2 (gEq false)) (dFn S__law_take [] 2 (dPA (eCons (eV 2) (eCons (eC (.int 4)) eNil)))) (dP (eC (.int 0)))) (dCons (dOp (p2 (gEq false)) (dFn S__law_take [] 2 (dPA (eCons (eV 2) (eCons (eC (.int 2)) eNil)))) (dP (eC (.int 0)))) (dPA eNil))))) (sSeq (sAsg (dIf (dPT (eTst (eV 6))) (dFn S__law_long [] 1 (dPA (eCons (eV 2) eNil))) (dP (eC (.int 1)))) (dgName 3)) (sSeq (sAsg (dFn S__law_roads [] 3 (dPA (eCons (eV 2) (eCons (eAnd (eV 5) (e2 (gEq false) (eV 1) (eC (.int 0)))) (eCons (eV 3) eNil))))) (dgName 4)) (sIf (dNotT (dTst (dFn S__law_life_right [] 5 (dCons (dP (eV 2)) (dCons (dP (eV 4)) (dCons (dIf (dPT (eAndT (eTst (eV 5)) (eTst (e2 (gEq false) (eV 1) (eC (.int 0)))))) (dP (eC (.int 3))) (dOp (p2 gIx) (dP (eN gLst (eCons (eC (.int 5)) (eCons (eC (.int 12)) (eCons (eC (.int 40)) eNil))))) (dFn S__law_take [] 2 (dPA (eCons (eV 2) (eCons (eC (.int 3)) eNil)))))) (dPA (eCons (eV 3) (eCons (eV 7) eNil))))))))) (sRet (dP (eC (.bl false)))) sNext))))))) (sRet (dP (eC (.bl true)))))
def N_law : List Str := ["script", "k", "box", "unit", "roads", "wide", "great", "by_name"]
end K60
end

section
set_option maxRecDepth 100000
/-! S1: the small defs. -/
namespace K60
open PySem PySem.Spec PyProof.Rows L2 DL Wl
theorem kit_NoneType_int : kitS "NoneType" ["int"] = some false := by decide +kernel
theorem kit_NoneType_bool : kitS "NoneType" ["bool"] = some false := by decide +kernel
theorem kit_NoneType_str : kitS "NoneType" ["str"] = some false := by decide +kernel
theorem kit_NoneType_list : kitS "NoneType" ["list"] = some false := by decide +kernel
theorem kit_NoneType_tuple : kitS "NoneType" ["tuple"] = some false := by decide +kernel
theorem kit_NoneType_dict : kitS "NoneType" ["dict"] = some false := by decide +kernel
theorem kit_NoneType_list_tuple : kitS "NoneType" ["list", "tuple"] = some false := by decide +kernel
theorem kit_bool_int : kitS "bool" ["int"] = some true := by decide +kernel
theorem kit_bool_bool : kitS "bool" ["bool"] = some true := by decide +kernel
theorem kit_bool_str : kitS "bool" ["str"] = some false := by decide +kernel
theorem kit_bool_list : kitS "bool" ["list"] = some false := by decide +kernel
theorem kit_bool_tuple : kitS "bool" ["tuple"] = some false := by decide +kernel
theorem kit_bool_dict : kitS "bool" ["dict"] = some false := by decide +kernel
theorem kit_bool_list_tuple : kitS "bool" ["list", "tuple"] = some false := by decide +kernel
theorem kit_int_int : kitS "int" ["int"] = some true := by decide +kernel
theorem kit_int_bool : kitS "int" ["bool"] = some false := by decide +kernel
theorem kit_int_str : kitS "int" ["str"] = some false := by decide +kernel
theorem kit_int_list : kitS "int" ["list"] = some false := by decide +kernel
theorem kit_int_tuple : kitS "int" ["tuple"] = some false := by decide +kernel
theorem kit_int_dict : kitS "int" ["dict"] = some false := by decide +kernel
theorem kit_int_list_tuple : kitS "int" ["list", "tuple"] = some false := by decide +kernel
theorem kit_str_int : kitS "str" ["int"] = some false := by decide +kernel
theorem kit_str_bool : kitS "str" ["bool"] = some false := by decide +kernel
theorem kit_str_str : kitS "str" ["str"] = some true := by decide +kernel
theorem kit_str_list : kitS "str" ["list"] = some false := by decide +kernel
theorem kit_str_tuple : kitS "str" ["tuple"] = some false := by decide +kernel
theorem kit_str_dict : kitS "str" ["dict"] = some false := by decide +kernel
theorem kit_str_list_tuple : kitS "str" ["list", "tuple"] = some false := by decide +kernel
theorem kit_tuple_int : kitS "tuple" ["int"] = some false := by decide +kernel
theorem kit_tuple_bool : kitS "tuple" ["bool"] = some false := by decide +kernel
theorem kit_tuple_str : kitS "tuple" ["str"] = some false := by decide +kernel
theorem kit_tuple_list : kitS "tuple" ["list"] = some false := by decide +kernel
theorem kit_tuple_tuple : kitS "tuple" ["tuple"] = some true := by decide +kernel
theorem kit_tuple_dict : kitS "tuple" ["dict"] = some false := by decide +kernel
theorem kit_tuple_list_tuple : kitS "tuple" ["list", "tuple"] = some true := by decide +kernel
theorem kit_list_int : kitS "list" ["int"] = some false := by decide +kernel
theorem kit_list_bool : kitS "list" ["bool"] = some false := by decide +kernel
theorem kit_list_str : kitS "list" ["str"] = some false := by decide +kernel
theorem kit_list_list : kitS "list" ["list"] = some true := by decide +kernel
theorem kit_list_tuple : kitS "list" ["tuple"] = some false := by decide +kernel
theorem kit_list_dict : kitS "list" ["dict"] = some false := by decide +kernel
theorem kit_list_list_tuple : kitS "list" ["list", "tuple"] = some true := by decide +kernel
theorem kit_dict_int : kitS "dict" ["int"] = some false := by decide +kernel
theorem kit_dict_bool : kitS "dict" ["bool"] = some false := by decide +kernel
theorem kit_dict_str : kitS "dict" ["str"] = some false := by decide +kernel
theorem kit_dict_list : kitS "dict" ["list"] = some false := by decide +kernel
theorem kit_dict_tuple : kitS "dict" ["tuple"] = some false := by decide +kernel
theorem kit_dict_dict : kitS "dict" ["dict"] = some true := by decide +kernel
theorem kit_dict_list_tuple : kitS "dict" ["list", "tuple"] = some false := by decide +kernel
section
variable {μ : Mu}
theorem isi_int {cs : List String} {b : Bool} {i : Int} (h : kitS "int" cs = some b) : gIsi cs μ (.int i) = some (.bl b) := by
  simp only [gIsi, tyD, h]
theorem isi_bl {cs : List String} {b c : Bool} (h : kitS "bool" cs = some b) : gIsi cs μ (.bl c) = some (.bl b) := by
  simp only [gIsi, tyD, h]
theorem isi_non {cs : List String} {b : Bool} (h : kitS "NoneType" cs = some b) : gIsi cs μ .non = some (.bl b) := by
  simp only [gIsi, tyD, h]
theorem isi_str {cs : List String} {b : Bool} {x : Str} (h : kitS "str" cs = some b) : gIsi cs μ (.str x) = some (.bl b) := by
  simp only [gIsi, tyD, h]
theorem isi_tup {cs : List String} {b : Bool} {xs : List D} (h : kitS "tuple" cs = some b) : gIsi cs μ (.tup xs) = some (.bl b) := by
  simp only [gIsi, tyD, h]
theorem isi_lst {cs : List String} {b : Bool} {xs : List D} (h : kitS "list" cs = some b) : gIsi cs μ (.lst xs) = some (.bl b) := by
  simp only [gIsi, tyD, h]
def G_is_integer  : Mu → List D → Option D := gOf N_is_integer (ev_is_integer  )
def G_is_count  : Mu → List D → Option D := gOf N_is_count (ev_is_count G_is_integer )
def G_is_within  : Mu → List D → Option D := gOf N_is_within (ev_is_within G_is_integer )
def G_is_index  : Mu → List D → Option D := gOf N_is_index (ev_is_index G_is_integer )
def G_is_short  : Mu → List D → Option D := gOf N_is_short (ev_is_short  )
def G_is_list  : Mu → List D → Option D := gOf N_is_list (ev_is_list  )
def G_is_tuple  : Mu → List D → Option D := gOf N_is_tuple (ev_is_tuple  )
def G_in_order  : Mu → List D → Option D := gOf N_in_order (ev_in_order  )
def G_count_in  : Mu → List D → Option D := gOf N_count_in (ev_count_in  )
def G_plus  : Mu → List D → Option D := gOf N_plus (ev_plus  )
def G_is_less  : Mu → List D → Option D := gOf N_is_less (ev_is_less  )
def G_least  : Mu → List D → Option D := gOf N_least (ev_least G_is_less )
def G_is_tie  : Mu → List D → Option D := gOf N_is_tie (ev_is_tie G_is_count G_is_index G_is_tuple )
def G_is_map  : Mu → List D → Option D := gOf N_is_map (ev_is_map G_in_order G_is_tie G_is_tuple G_is_within )
def G_check_map  : Mu → List D → Option D := gOf N_check_map (ev_check_map G_is_map )
theorem is_integer_int {i : Int} : G_is_integer μ [.int i] = some (.bl true) := by
  simp [G_is_integer, gOf, startD, N_is_integer, ev_is_integer, zRet, eAnd, eNot, e1, eV, slot, isi_int kit_int_int, isi_int kit_int_bool]
theorem is_count_int {i : Int} : G_is_count μ [.int i] = some (.bl (decide (0 ≤ i))) := by
  simp [G_is_count, gOf, startD, N_is_count, ev_is_count, zRet, eAnd, eFn, eN, eCons, eNil, eV, eC, slot, is_integer_int, e2, gCmpI]
theorem is_within_int {i lo hi : Int} : G_is_within μ [.int i, .int lo, .int hi] = some (.bl (decide (lo ≤ i) && decide (i ≤ hi))) := by
  simp [G_is_within, gOf, startD, N_is_within, ev_is_within, zRet, eAnd, eFn, eN, eCons, eNil, eV, eC, slot, is_integer_int, eChain, gLe]
  by_cases h : lo ≤ i <;> simp [h]
theorem is_index_int {i n : Int} : G_is_index μ [.int i, .int n] = some (.bl (decide (0 ≤ i) && decide (i < n))) := by
  simp [G_is_index, gOf, startD, N_is_index, ev_is_index, zRet, eAnd, eFn, eN, eCons, eNil, eV, eC, slot, is_integer_int, eChain, gLe, gCmpI]
  by_cases h : 0 ≤ i <;> simp [h]
theorem is_short_int {i : Int} : G_is_short μ [.int i] = some (.bl (decide (i < 10 ^ 1000))) := by
  simp only [G_is_short, gOf, startD, N_is_short, ev_is_short, zRet, e2, eV, eC, slot, gCmpI, List.map, List.cons_append, Option.bind_some]
theorem is_tuple_tup {xs : List D} {n : Int} : G_is_tuple μ [.tup xs, .int n] = some (.bl (decide ((xs.length : Int) = n))) := by
  simp [G_is_tuple, gOf, startD, N_is_tuple, ev_is_tuple, zRet, eAnd, eN, eCons, eNil, eV, eC, slot, e1, e2, isi_tup kit_tuple_tuple, gLen, items, gEq, eqB]
/-- an integer or None -/
def oD : Option Int → D
  | none => .non
  | some i => .int i
theorem is_less_o {a b : Option Int} : G_is_less μ [oD a, oD b] = some (.bl (ltO a b)) := by
  cases a <;> cases b <;> simp [G_is_less, gOf, startD, N_is_less, ev_is_less, zRet, eAnd, eOr, e2, eV, eC, slot, gIs, isN, gCmpI, oD, ltO]
theorem plus_o {a b : Option Int} : G_plus μ [oD a, oD b] = some (oD (addO a b)) := by
  cases a <;> cases b <;> simp [G_plus, gOf, startD, N_plus, ev_plus, zRet, eIf, eOrT, eTst, e2, eV, eC, slot, gIs, isN, gAdd, oD, addO]
theorem least_o {a b : Option Int} : G_least μ [oD a, oD b] = some (oD (leastO a b)) := by
  simp [G_least, gOf, startD, N_least, ev_least, zRet, eIf, eTst, eFn, eN, eCons, eNil, eV, slot, is_less_o, leastO]
  cases ltO a b <;> simp
end
end K60
end

section
set_option maxRecDepth 100000
/-! S2: maps. -/
namespace K60
open PySem PySem.Spec PyProof.Rows L2 DL Wl

/-- a tie; its length may be out -/
abbrev Ty := Nat × Nat × Option Int
def tieD (t : Ty) : D := .tup [.int t.1, .int t.2.1, oD t.2.2]
def edgeD (e : Edge) : D := .tup [.int e.1, .int e.2.1, .int e.2.2]
def roadsD (n : Nat) (E : List Edge) : D := .tup [.int n, .tup (E.map edgeD)]
def eRow (e : Edge) : List Int := [(e.1 : Int), (e.2.1 : Int), e.2.2]
theorem edgeD_row (e : Edge) : edgeD e = rowD (eRow e) := rfl
def pres (ts : List Ty) : List Edge := ts.filterMap fun t => t.2.2.map fun l => (t.1, t.2.1, l)
/-- the order of ties -/
def leE (e f : Edge) : Bool := leR (eRow e) (eRow f)
theorem leR_iff (r s : List Int) : leR r s = !decide (s < r) := by
  show (!PySem.W.dataLt (.tuple (s.map .int)) (.tuple (r.map .int))) = _
  rw [PySem.W.dataLt_tuple]
  show (!PySem.W.rowLt (s.map .int) (r.map .int)) = _
  rw [PySem.W.dataLt_ints]
theorem tri_lt (a b c a' b' c' : Int) : ([a, b, c] < [a', b', c']) ↔ (a < a' ∨ (a = a' ∧ (b < b' ∨ (b = b' ∧ c < c')))) := by
  simp [List.cons_lt_cons_iff]
theorem leE_iff (e f : Edge) : leE e f = true ↔ (e.1 < f.1 ∨ (e.1 = f.1 ∧ (e.2.1 < f.2.1 ∨ (e.2.1 = f.2.1 ∧ e.2.2 ≤ f.2.2)))) := by
  unfold leE
  rw [leR_iff]
  unfold eRow
  rw [Bool.not_eq_true', decide_eq_false_iff_not, tri_lt]
  omega
theorem lexLeA_tri (e f : Edge) : lexLeA (eRow e) (eRow f) = leE e f := by
  have h : lexLeA (eRow e) (eRow f) = true ↔ (e.1 < f.1 ∨ (e.1 = f.1 ∧ (e.2.1 < f.2.1 ∨ (e.2.1 = f.2.1 ∧ e.2.2 ≤ f.2.2)))) := by
    unfold lexLeA eRow
    simp only [List.length_cons, List.length_nil, Nat.min_self, Ob.lexAt_succ, Ob.lexAt_zero, List.getD_cons_zero, List.getD_cons_succ, decide_eq_true_eq, Nat.zero_add]
    by_cases h1 : e.1 = f.1
    · by_cases h2 : e.2.1 = f.2.1
      · by_cases h3 : e.2.2 = f.2.2
        · simp [h1, h2, h3]
        · have : ¬ ((e.2.2 : Int) = f.2.2) := h3
          simp [h1, h2, h3]
      · have h2' : ¬ ((e.2.1 : Int) = (f.2.1 : Int)) := fun q => h2 (by omega)
        simp [h1, h2, h2']
        omega
    · have h1' : ¬ ((e.1 : Int) = (f.1 : Int)) := fun q => h1 (by omega)
      simp [h1, h1']
      omega
  cases hl : leE e f with
  | true => exact h.mpr ((leE_iff e f).mp hl)
  | false =>
    cases hx : lexLeA (eRow e) (eRow f) with
    | false => rfl
    | true => rw [(leE_iff e f).mpr (h.mp hx)] at hl; cases hl
theorem leE_trans (a b c : Edge) (h : leE a b = true) (h' : leE b c = true) : leE a c = true := by
  rw [leE_iff] at h h' ⊢
  omega
theorem leE_total (a b : Edge) : (leE a b || leE b a) = true := by
  rw [Bool.or_eq_true, leE_iff, leE_iff]
  omega
def sortE (E : List Edge) : List Edge := E.mergeSort leE
theorem sortE_perm (E : List Edge) : (sortE E).Perm E := List.mergeSort_perm E leE
theorem sortE_sorted (E : List Edge) : (sortE E).Pairwise fun a b => leE a b = true := List.pairwise_mergeSort leE_trans leE_total E
theorem sortE_of {E : List Edge} (h : E.Pairwise fun a b => leE a b = true) : sortE E = E := List.mergeSort_of_pairwise h
theorem sortE_congr {E E' : List Edge} (h : E.Perm E') : sortE E = sortE E' := by
  refine List.Perm.eq_of_pairwise (le := fun a b => leE a b = true) (fun a b _ _ h1 h2 => ?_) (sortE_sorted E) (sortE_sorted E') ((sortE_perm E).trans (h.trans (sortE_perm E').symm))
  rw [leE_iff] at h1 h2
  obtain ⟨a1, a2, a3⟩ := a
  obtain ⟨b1, b2, b3⟩ := b
  simp only at h1 h2
  have e1 : a1 = b1 := by omega
  have e2 : a2 = b2 := by omega
  have e3 : a3 = b3 := by omega
  rw [e1, e2, e3]
/-- a map as the document wants it -/
structure Map (n : Nat) (E : List Edge) : Prop where
  n1 : 1 ≤ n
  n2 : n ≤ 20
  m : E.length ≤ 120
  wf : Wf n E
  ne : ∀ u v l, (u, v, l) ∈ E → u ≠ v
  srt : E.Pairwise fun a b => leE a b = true
section
variable {μ : Mu}
theorem atI_map {α : Type} (f : α → D) {xs : List α} {i : Nat} {a : α} (h : xs[i]? = some a) : atI (xs.map f) (i : Int) = some (f a) := atI_nat (by rw [List.getElem?_map, h]; rfl)
theorem getE {E : List Edge} {i : Nat} (h : i < E.length) : E[i]? = some E[i] := List.getElem?_eq_getElem h
theorem gLe_edge (e f : Edge) : gLe μ (edgeD e) (edgeD f) = some (.bl (leE e f)) := by
  rw [← lexLeA_tri]
  rfl
theorem in_order_edges {E : List Edge} (hl : E.length ≤ 1000) (h : E.Pairwise fun a b => leE a b = true) : G_in_order μ [.tup (E.map edgeD)] = some (.bl true) := by
  have key : lcGo (egName 1) eYes (e2 gLe (e2 gIx (eV 0) (e2 (gArith fun i j => i - j) (eV 1) (eC (.int 1)))) (e2 gIx (eV 0) (eV 1))) [some (.tup (E.map edgeD)), none] μ (rgD 1 (E.length - 1)) = some ((List.range (E.length - 1)).map fun _ => D.bl true) := by
    refine lcGo_map (fun (i : Nat) => D.int (1 + (i : Int))) (fun _ => .bl true) _ fun i hi => ⟨[some (.tup (E.map edgeD)), some (.int (1 + (i : Int)))], rfl, rfl, ?_⟩
    rw [List.mem_range] at hi
    have h1 : i < E.length := by omega
    have h2 : i + 1 < E.length := by omega
    have e1 : (1 + (i : Int) - 1) = (i : Int) := by omega
    have e2' : (1 + (i : Int)) = ((i + 1 : Nat) : Int) := by omega
    have hp : leE E[i] E[i + 1] = true := List.pairwise_iff_getElem.mp h i (i + 1) h1 h2 (by omega)
    simp only [e2, eV, eC, slot, Option.bind_some, gArith, gIx, items, e1]
    rw [e2', atI_map edgeD (getE h1), atI_map edgeD (getE h2)]
    simp only [Option.bind_some]
    rw [gLe_edge, hp]
  have hbs : ((List.range (E.length - 1)).map fun _ => D.bl true) = ((List.range (E.length - 1)).map fun _ => true).map D.bl := by
    rw [List.map_map]
    rfl
  have e3 : (((E.length : Nat) : Int) - 1).toNat = E.length - 1 := by omega
  have hr : (rgD 1 (E.length - 1)).length ≤ 100000 := by
    unfold rgD
    rw [List.length_map, List.length_range]
    omega
  have h4 : ((E.length : Nat) : Int) ≤ 100000 := by omega
  have h5 : (-100000 : Int) ≤ ((E.length : Nat) : Int) := by omega
  have hfin : (((List.range (E.length - 1)).map fun _ => true).all id) = true := by
    rw [List.all_eq_true]
    intro x hx
    obtain ⟨_, _, rfl⟩ := List.mem_map.mp hx
    rfl
  simp only [G_in_order, gOf, startD, N_in_order, ev_in_order, zRet, eN, eCons, eNil, eLc, ipRg2, eV, eC, slot, gLen, items, unsetAll, setS, List.map, List.cons_append, List.nil_append, List.length_cons, List.length_nil, List.replicate, Option.bind_some, List.length_map, e3, Nat.reduceAdd, Nat.reduceSub, h4, h5, Int.reduceLE, Int.reduceNeg, and_self, if_true, hr, key, gBls, itemsL, hbs, boolsOf_map, hfin]
end
end K60
end

section
set_option maxRecDepth 100000
/-! S3: maps, on. -/
namespace K60
open PySem PySem.Spec PyProof.Rows L2 DL Wl
section
variable {μ : Mu}
theorem boolsT {α : Type} : ∀ xs : List α, boolsOf (xs.map fun _ => D.bl true) = some (xs.map fun _ => true)
  | [] => rfl
  | x :: r => by
    simp only [List.map_cons, boolsOf, boolsT r]
theorem allT {α : Type} (xs : List α) : (xs.map fun _ => true).all id = true := by
  rw [List.all_eq_true]
  intro x hx
  obtain ⟨_, _, rfl⟩ := List.mem_map.mp hx
  rfl
theorem atI0 {α : Type} {x : α} {xs : List α} : atI (x :: xs) 0 = some x := atI_nat (j := 0) rfl
theorem atI1 {α : Type} {x y : α} {xs : List α} : atI (x :: y :: xs) 1 = some y := atI_nat (j := 1) rfl
theorem atI2 {α : Type} {x y z : α} {xs : List α} : atI (x :: y :: z :: xs) 2 = some z := atI_nat (j := 2) rfl
theorem is_tie_edge {e : Edge} {n : Nat} (h1 : e.1 < n) (h2 : e.2.1 < n) (h3 : e.1 ≠ e.2.1) (h4 : 0 ≤ e.2.2) : G_is_tie μ [.int n, edgeD e] = some (.bl true) := by
  have h3' : ¬ ((e.1 : Int) = (e.2.1 : Int)) := by omega
  simp [G_is_tie, gOf, startD, N_is_tie, ev_is_tie, zSeq, zIf, zRet, zNext, zNever, eOrT, eNotT, eTst, eFn, eN, eCons, eNil, eV, eC, slot, is_tuple_tup, edgeD, e2, gIx, items, atI0, atI1, atI2, is_index_int, h1, h2, eAnd, gEq, eqB, h3', is_count_int, h4]
theorem is_map_roads {n : Nat} {E : List Edge} (h : Map n E) : G_is_map μ [roadsD n E] = some (.bl true) := by
  have key : lcGo (egName 3) eYes (eFn G_is_tie [] 2 (eCons (eV 1) (eCons (eV 3) eNil))) [some (roadsD n E), some (.int n), some (.tup (E.map edgeD)), none] μ (E.map edgeD) = some (E.map fun _ => D.bl true) := by
    refine lcGo_map edgeD (fun _ => .bl true) _ fun e he => ⟨[some (roadsD n E), some (.int n), some (.tup (E.map edgeD)), some (edgeD e)], rfl, rfl, ?_⟩
    obtain ⟨w1, w2, w3⟩ := h.wf e.1 e.2.1 e.2.2 he
    have w4 := h.ne e.1 e.2.1 e.2.2 he
    simp [eFn, eN, eCons, eNil, eV, slot, is_tie_edge w1 w2 w4 w3]
  have a1 : (decide ((1 : Int) ≤ (n : Int)) && decide ((n : Int) ≤ (20 : Int))) = true := by
    have := h.n1
    have := h.n2
    simp only [Bool.and_eq_true, decide_eq_true_eq]
    omega
  have a2 : decide ((120 : Int) < ((E.length : Nat) : Int)) = false := by
    have := h.m
    rw [decide_eq_false_iff_not]
    omega
  have hl : E.length ≤ 100000 := Nat.le_trans h.m (by decide)
  have key2 := key
  unfold roadsD at key2
  simp [G_is_map, gOf, startD, N_is_map, ev_is_map, zSeq, zIf, zRet, zNext, zNever, zAsg, egTup, egCons, egName, egNil, itemsT, eOrT, eNotT, eTst, eFn, eN, eCons, eNil, eV, eC, slot, setS, is_tuple_tup, roadsD, e1, e2, gIx, items, atI0, is_within_int, a1, isi_tup kit_tuple_tuple, gLen, gCmpI, a2, eAnd, eLc, ipSeq, seqI, unsetAll, hl, key2, gBls, itemsL, boolsT, allT, in_order_edges (Nat.le_trans h.m (by decide)) h.srt]
theorem check_map_roads {n : Nat} {E : List Edge} (h : Map n E) : G_check_map μ [roadsD n E] = some .non := by
  simp [G_check_map, gOf, startD, N_check_map, ev_check_map, zIf, zNext, zNever, eNotT, eTst, eFn, eN, eCons, eNil, eV, slot, is_map_roads h]
def G_map_of  : Mu → List D → Option D := gOf N_map_of (ev_map_of  )
theorem rows_edges (E : List Edge) : rowsOf (E.map edgeD) = some (E.map eRow) := by
  have : E.map edgeD = (E.map eRow).map rowD := by
    rw [List.map_map]
    rfl
  rw [this]
  exact rowsOf_map fun r hr => by
    obtain ⟨e, _, rfl⟩ := List.mem_map.mp hr
    exact fun z => nomatch z
theorem sort_rows (E : List Edge) : ((E.map eRow).mergeSort leR).map rowD = (sortE E).map edgeD := by
  have : (E.map eRow).mergeSort leR = (sortE E).map eRow := (List.map_mergeSort (r := leE) (s := leR) (f := eRow) (l := E) fun a _ b _ => rfl).symm
  rw [this, List.map_map]
  rfl
theorem sorted_edges {x : D} {E : List Edge} (hx : itemsL μ x = some (E.map edgeD)) (hl : E.length ≤ 100000) : gSorted μ [x] = some (.lst ((sortE E).map edgeD)) := by
  simp only [gSorted, hx, rows_edges, List.length_map, hl, if_true, sort_rows]
theorem map_of_edges {x : D} {n : Int} {E : List Edge} (hx : itemsL μ x = some (E.map edgeD)) (hl : E.length ≤ 100000) : G_map_of μ [.int n, x] = some (.tup [.int n, .tup ((sortE E).map edgeD)]) := by
  simp [G_map_of, gOf, startD, N_map_of, ev_map_of, zRet, eN, eCons, eNil, eV, slot, sorted_edges hx hl, gTuple, items, DL.gTup]
/-! ### ties whose lengths may be out -/
def G_present  : Mu → List D → Option D := gOf N_present (ev_present  )
def G_with_length  : Mu → List D → Option D := gOf N_with_length (ev_with_length  )
theorem edge_tie (a b : Nat) (l : Int) : edgeD (a, b, l) = tieD (a, b, some l) := rfl
theorem pres_map (ts : List Ty) : ((ts.filter fun t => t.2.2.isSome).map tieD) = (pres ts).map edgeD := by
  unfold pres
  induction ts with
  | nil => rfl
  | cons t r ih =>
    obtain ⟨a, b, o⟩ := t
    cases o with
    | none =>
      rw [List.filter_cons_of_neg (by simp), List.filterMap_cons_none (by rfl)]
      exact ih
    | some l =>
      rw [List.filter_cons_of_pos (by simp), List.filterMap_cons_some (by rfl), List.map_cons, List.map_cons, ih]
      rfl
theorem oD_isN (o : Option Int) : isN (oD o) = o.isNone := by cases o <;> rfl
theorem present_ties {ts : List Ty} (hl : ts.length ≤ 100000) : G_present μ [.lst (ts.map tieD)] = some (.lst ((pres ts).map edgeD)) := by
  have key : lcGo (egName 1) (eTst (e2 (gIs true) (e2 gIx (eV 1) (eC (.int 2))) (eC .non))) (eV 1) [some (.lst (ts.map tieD)), none] μ (ts.map tieD) = some ((ts.filter fun t => t.2.2.isSome).map tieD) := by
    refine lcGo_filter tieD (fun t => t.2.2.isSome) tieD _ fun t ht => ⟨[some (.lst (ts.map tieD)), some (tieD t)], rfl, ?_, fun _ => rfl⟩
    simp only [eTst, e2, eV, eC, slot, Option.bind_some, gIx, tieD, items, atI2, gIs, oD_isN]
    cases t.2.2 <;> rfl
  rw [pres_map] at key
  simp [G_present, gOf, startD, N_present, ev_present, zRet, eLc, ipSeq, eV, slot, seqI, items, unsetAll, setS, hl, key]
theorem sIx_some (n d k : Nat) : HT.sIx n d (some (k : Int)) = min k n := HT.sIx_nat n d k
theorem with_length_ties {ts : List Ty} {i : Nat} {t : Ty} {o : Option Int} (hi : ts[i]? = some t) (hl : ts.length ≤ 1000) : G_with_length μ [.lst (ts.map tieD), .int i, oD o] = some (.lst ((ts.set i (t.1, t.2.1, o)).map tieD)) := by
  have hlt : i < ts.length := (List.getElem?_eq_some_iff.mp hi).1
  have e1' : DL.cutD (ts.map tieD) none (some (i : Int)) = (ts.map tieD).take i := by
    unfold DL.cutD
    rw [HT.sIx_none, HT.sIx_nat, List.length_map, Nat.min_eq_left (Nat.le_of_lt hlt), List.drop_zero, Nat.sub_zero]
  have e2' : DL.cutD (ts.map tieD) (some ((i : Int) + 1)) none = (ts.map tieD).drop (i + 1) := by
    unfold DL.cutD
    have : ((i : Int) + 1) = ((i + 1 : Nat) : Int) := by omega
    rw [this, HT.sIx_none, HT.sIx_nat, List.length_map, Nat.min_eq_left hlt]
    exact List.take_of_length_le (by rw [List.length_drop, List.length_map]; exact Nat.le_refl _)
  have e3 : (ts.set i (t.1, t.2.1, o)).map tieD = (ts.map tieD).take i ++ (.tup [.int t.1, .int t.2.1, oD o] :: (ts.map tieD).drop (i + 1)) := by
    rw [List.set_eq_take_append_cons_drop, if_pos hlt, List.map_append, List.map_cons, List.map_take, List.map_drop]
    rfl
  have e4 : ((ts.map tieD).take i).length + (((ts.map tieD).drop (i + 1)).length + 1) ≤ 100000 := by
    rw [List.length_take, List.length_drop, List.length_map]
    omega
  have e5 : min i ts.length + (ts.length - (i + 1) + 1) ≤ 100000 := by omega
  rw [e3]
  simp [G_with_length, gOf, startD, N_with_length, ev_with_length, zSeq, zAsg, zRet, egTup, egCons, egName, egNil, itemsT, e2, eV, eC, slot, setS, gIx, items, atI_map tieD hi, tieD, eN, eStar, eCons, eNil, eSl, eNoPart, ePart, gSl, itemsL, DL.gTup, DL.gLst, gAdd, e1', e2', e5]
end
end K60
end

section
set_option maxRecDepth 100000
/-! S4: ties_from, search. -/
namespace K60
open PySem PySem.Spec PyProof.Rows L2 DL Wl

/-- the ties that lead from a: number, end, length -/
def outs (E : List Edge) (a : Nat) : List D := (E.zipIdx.filter fun e => e.1.1 == a).map fun e => .tup [.int e.2, .int e.1.2.1, .int e.1.2.2]
def S_ties_from : DC := fun ds μ k => ∃ n x E, ds = [.int (n : Nat), x] ∧ items μ x = some (E.map edgeD) ∧ (∀ e ∈ E, e.1 < n) ∧ n ≤ 1000 ∧ E.length ≤ 1000 ∧
  ∀ (qs : List Addr) (μ' : Mu), qs.length = n → Ext μ μ' → qs.Nodup → (∀ q ∈ qs, μ q = none) → (∀ a q, qs[a]? = some q → μ' q = some (.lst (outs E a))) → k (.lst (qs.map .loc)) μ'
theorem outs_take {E : List Edge} {i : Nat} {e : Edge} (h : E[i]? = some e) (a : Nat) : outs (E.take (i + 1)) a = outs (E.take i) a ++ if e.1 = a then [.tup [.int i, .int e.2.1, .int e.2.2]] else [] := by
  have hlt : i < E.length := (List.getElem?_eq_some_iff.mp h).1
  have he : E[i] = e := (List.getElem?_eq_some_iff.mp h).2
  have hl : (E.take i).length = i := by rw [List.length_take]; omega
  unfold outs
  rw [List.take_succ_eq_append_getElem hlt, List.zipIdx_append, List.filter_append, List.map_append, hl, he]
  congr 1
  by_cases hq : e.1 = a
  · simp [hq]
  · simp [hq]
theorem nodup_at {α : Type} {l : List α} (h : l.Nodup) {i j : Nat} {a : α} (h1 : l[i]? = some a) (h2 : l[j]? = some a) : i = j := by
  obtain ⟨hi, e1⟩ := List.getElem?_eq_some_iff.mp h1
  obtain ⟨hj, e2⟩ := List.getElem?_eq_some_iff.mp h2
  have hp := List.pairwise_iff_getElem.mp h
  by_cases hij : i < j
  · exact absurd (e1.trans e2.symm) (hp i j hi hj hij)
  · by_cases hji : j < i
    · exact absurd (e2.trans e1.symm) (hp j i hj hi hji)
    · omega
theorem sem_ties_from (ds : List D) (μ : Mu) (kont : DK) (h : S_ties_from ds μ kont) : bd_ties_from { nx := fun _ μ' => GhV kont .non μ', rt := GhV kont } (startD N_ties_from ds) μ := by
  obtain ⟨n, x, E, rfl, hx, hE, hn, hl, hk⟩ := h
  unfold bd_ties_from
  refine ⟨[.int n], rfl, ⟨by omega, by omega⟩, ?_⟩
  refine lc_new _ _ _ (by unfold rgD; rw [List.length_nil, List.length_map, List.length_range]; omega) fun qs μ1 h1 h2 h3 h4 => ?_
  have hlq : qs.length = n := by
    rw [h1]
    unfold rgD
    rw [List.length_map, List.length_range, Int.toNat_natCast]
  refine ⟨[x], rfl, E.map edgeD, ?_, ?_⟩
  · cases x with
    | loc p =>
      simp only [items] at hx ⊢
      cases hm : μ p with
      | none => rw [hm] at hx; cases hx
      | some m =>
        rw [hm] at hx
        rw [h2 p m hm]
        exact hx
    | _ => exact hx
  · have okE : ∀ μ', Ext μ μ' → okOf x (E.map edgeD) μ' := fun μ' he => by
      cases x with
      | loc p =>
        simp only [items] at hx
        simp only [okOf]
        cases hm : μ p with
        | none => rw [hm] at hx; cases hx
        | some m =>
          rw [hm] at hx
          rw [he p m hm]
          cases m <;> simp only at hx <;> cases hx
          rfl
      | _ => exact trivial
    refine forL_ix (fun i ρ μ' => (∃ r3 r5 r6 r7, ρ = [some (.int n), some x, some (.lst ([] ++ qs.map .loc)), r3, none, r5, r6, r7]) ∧ Ext μ μ' ∧ ∀ a q, qs[a]? = some q → μ' q = some (.lst (outs (E.take i) a))) (fun i ρ μ' h => okE μ' h.2.1) (fun i y ρ μ' N hy hQ hN => ?_) (fun ρ μ' hQ => ?_) ⟨⟨none, none, none, none, rfl⟩, h2, fun a q hq => ?_⟩
    · obtain ⟨⟨r3, r5, r6, r7, rfl⟩, he, hq⟩ := hQ
      obtain ⟨z, hz, rfl⟩ := enD_get hy
      rw [List.getElem?_map] at hz
      cases hEi : E[i]? with
      | none => rw [hEi] at hz; cases hz
      | some e =>
        rw [hEi] at hz
        cases hz
        have hea : e.1 < qs.length := by
          rw [hlq]
          exact hE e (List.mem_of_getElem? hEi)
        refine ⟨[.int i, edgeD e], rfl, rfl, [.int e.1, .int e.2.1, .int e.2.2], rfl, rfl, rfl, rfl, ?_⟩
        have hqa : qs[e.1]? = some qs[e.1] := List.getElem?_eq_getElem hea
        have hm := hq e.1 _ hqa
        refine ⟨.loc qs[e.1], ?_, ⟨_, itemsL_loc hm⟩, [D.tup [.int i, .int e.2.1, .int e.2.2]], rfl, ?_⟩
        · show gIx μ' (D.lst ([] ++ qs.map D.loc)) (D.int ((e.1 : Nat) : Int)) = some (D.loc qs[e.1])
          exact ix_lst (by rw [List.nil_append, List.getElem?_map, hqa]; rfl)
        · refine lstAt_i hm ⟨?_, ?_⟩
          · unfold outs
            rw [List.length_map]
            refine Nat.lt_of_le_of_lt (List.length_filter_le _ _) ?_
            rw [List.length_zipIdx, List.length_take]
            omega
          · refine GhS.done (hN _ _ ⟨⟨_, _, _, _, rfl⟩, ?_, fun a q hqa' => ?_⟩)
            · exact Ext.new he (h3 _ (List.getElem_mem hea)).1
            · rw [outs_take hEi]
              by_cases hqe : q = qs[e.1]
              · have hae : a = e.1 := nodup_at h4 (hqe ▸ hqa') hqa
                subst hae
                rw [hqe, updM_same, if_pos rfl]
              · have hae : e.1 ≠ a := fun z => hqe (by subst z; rw [hqa] at hqa'; exact (Option.some.inj hqa').symm)
                rw [updM_ne hqe, if_neg hae, List.append_nil]
                exact hq a q hqa'
    · obtain ⟨⟨r3, r5, r6, r7, rfl⟩, he, hq⟩ := hQ
      refine ⟨.lst ([] ++ qs.map .loc), rfl, GhV.done ?_⟩
      rw [List.nil_append]
      refine hk qs μ' hlq he h4 (fun q hqm => (h3 q hqm).1) fun a q hqa => ?_
      have := hq a q hqa
      rw [enD_len, List.length_map, List.take_length] at this
      exact this
    · rw [List.take_zero]
      exact (h3 q (List.mem_of_getElem? hq)).2
end K60
end

section
set_option maxRecDepth 100000
/-! S5: search. -/
namespace K60
open PySem PySem.Spec PyProof.Rows L2 DL Wl

theorem ltO_step {a b c : Option Int} (h1 : ltO a b = false) (h2 : ltO c b = true) : ltO a c = false := by
  cases a <;> cases b <;> cases c <;> simp [ltO] at h1 h2 ⊢
  omega
theorem ltO_self (a : Option Int) : ltO a a = false := by
  cases a <;> simp [ltO]
/-- what the search holds -/
structure Sm (μ0 μ : Mu) (E : List Edge) (n : Nat) (qs : List Addr) (pf pc pw : Addr) (f : List (Option Int)) (cs : List D) (a : List Int) : Prop where
  ext : Ext μ0 μ
  nf : μ0 pf = none
  nc : μ0 pc = none
  nw : μ0 pw = none
  fc : pc ≠ pf
  fw : pw ≠ pf
  cw : pw ≠ pc
  qf : ∀ q ∈ qs, q ≠ pf
  qc : ∀ q ∈ qs, q ≠ pc
  qw : ∀ q ∈ qs, q ≠ pw
  ql : qs.length = n
  q : ∀ (i : Nat) (r : Addr), qs[i]? = some r → μ r = some (.lst (outs E i))
  f : μ pf = some (.lst (f.map oD))
  c : μ pc = some (.lst cs)
  cl : cs.length = n
  w : μ pw = some (.lst (a.map .int))
section
variable {μ0 μ : Mu} {E : List Edge} {n : Nat} {qs : List Addr} {pf pc pw : Addr} {f f' : List (Option Int)} {cs cs' : List D} {a a' : List Int}
theorem Sm.setF (h : Sm μ0 μ E n qs pf pc pw f cs a) : Sm μ0 (updM μ pf (.lst (f'.map oD))) E n qs pf pc pw f' cs a :=
  ⟨Ext.new h.ext h.nf, h.nf, h.nc, h.nw, h.fc, h.fw, h.cw, h.qf, h.qc, h.qw, h.ql, fun i r hr => by rw [updM_ne (h.qf r (List.mem_of_getElem? hr))]; exact h.q i r hr, updM_same, by rw [updM_ne h.fc]; exact h.c, h.cl, by rw [updM_ne h.fw]; exact h.w⟩
theorem Sm.setC (h : Sm μ0 μ E n qs pf pc pw f cs a) (hl : cs'.length = n) : Sm μ0 (updM μ pc (.lst cs')) E n qs pf pc pw f cs' a :=
  ⟨Ext.new h.ext h.nc, h.nf, h.nc, h.nw, h.fc, h.fw, h.cw, h.qf, h.qc, h.qw, h.ql, fun i r hr => by rw [updM_ne (h.qc r (List.mem_of_getElem? hr))]; exact h.q i r hr, by rw [updM_ne h.fc.symm]; exact h.f, updM_same, hl, by rw [updM_ne h.cw]; exact h.w⟩
theorem Sm.setW (h : Sm μ0 μ E n qs pf pc pw f cs a) : Sm μ0 (updM μ pw (.lst (a'.map .int))) E n qs pf pc pw f cs a' :=
  ⟨Ext.new h.ext h.nw, h.nf, h.nc, h.nw, h.fc, h.fw, h.cw, h.qf, h.qc, h.qw, h.ql, fun i r hr => by rw [updM_ne (h.qw r (List.mem_of_getElem? hr))]; exact h.q i r hr, by rw [updM_ne h.fw.symm]; exact h.f, by rw [updM_ne h.cw.symm]; exact h.c, h.cl, updM_same⟩
theorem oD_map_sb {p : Addr} {ys : List D} : ∀ f : List (Option Int), sbLs p ys (f.map oD) = f.map oD
  | [] => rfl
  | x :: r => by
    rw [List.map_cons]
    show sbL p ys (oD x) :: sbLs p ys (r.map oD) = _
    rw [oD_map_sb r]
    cases x <;> rfl
/-- what is returned stands still; the rest is forgotten -/
theorem Sm.ret (h : Sm μ0 μ E n qs pf pc pw f cs a) {kont : DK} (hk : ∀ ds, kont (.tup [.lst (f.map oD), .lst ds]) μ0) : GhV kont (.tup [.loc pf, .loc pc]) μ := by
  refine GhV.frz pf _ h.f ?_
  have e1 : sbL pf (f.map oD) (.tup [.loc pf, .loc pc]) = .tup [.lst (f.map oD), .loc pc] := by
    simp only [sbL, sbLs, if_true, if_neg h.fc]
  rw [e1]
  have hc : delM μ pf pc = some (.lst cs) := by
    unfold delM
    rw [if_neg h.fc]
    exact h.c
  refine GhV.frz pc _ hc ?_
  have e2 : sbL pc cs (.tup [.lst (f.map oD), .loc pc]) = .tup [.lst (f.map oD), .lst cs] := by
    simp only [sbL, sbLs, if_true, oD_map_sb]
  rw [e2]
  exact GhV.drop μ0 (Ext.del (Ext.del h.ext h.nf) h.nc) (GhV.done (hk cs))
theorem fget {v : Nat} {o : Option Int} (h : f[v]? = some o) : (f.map oD)[v]? = some (oD o) := by rw [List.getElem?_map, h]; rfl
/-- the value that f has at z -/
def fat (f : List (Option Int)) (z : Int) : Option Int := (f[z.toNat]?).getD none
theorem fat_get {z : Int} (h0 : 0 ≤ z) (h1 : z < f.length) : f[z.toNat]? = some (fat f z) := by
  unfold fat
  rw [List.getElem?_eq_getElem (by omega)]
  rfl
theorem Sm.ixF (h : Sm μ0 μ E n qs pf pc pw f cs a) {z : Int} (h0 : 0 ≤ z) (h1 : z < f.length) : gIx μ (.loc pf) (.int z) = some (oD (fat f z)) := by
  have e : z = ((z.toNat : Nat) : Int) := by omega
  have := ix_loc (j := z.toNat) h.f (fget (fat_get h0 h1))
  rw [← e] at this
  exact this
def S_search : DC := fun ds μ k => ∃ n x E s, ds = [.int (n : Nat), x, .int (s : Nat)] ∧ items μ x = some (E.map edgeD) ∧ Wf n E ∧ s < n ∧ n ≤ 1000 ∧ E.length ≤ 1000 ∧ ∀ cs, k (.tup [.lst ((rowOf n E s).map oD), .lst cs]) μ
theorem pyFs_ints (a : List Int) : pyFs (a.map .int) = some (a.map .int) := by
  induction a with
  | nil => rfl
  | cons x r ih => simp only [List.map_cons, pyFs, pyF, ih]
theorem shaped_ints (a : List Int) : SeqAt.shaped (.list (a.map .int)) = true := by
  have h1 : ∀ a : List Int, PyData.canLayAll0 (a.map .int) = true := fun a => by
    induction a with
    | nil => rfl
    | cons x r ih => simp only [List.map_cons, PyData.canLayAll0, PyData.canLay0, ih, Bool.and_self]
  unfold SeqAt.shaped
  simp only [PyData.canLay0, h1, PyData.depth, PySem.W.depth_ints]
  decide
theorem eqv_nil (xs : List PyData) : PyData.eqv (.list xs) (.list []) = xs.isEmpty := by
  cases xs <;> simp [PyData.eqv, PyData.eqvAll]
theorem ne_nil_ints {p : Addr} (h : μ p = some (.lst (a.map .int))) : gEq true μ (.loc p) (.lst []) = some (.bl (!a.isEmpty)) := by
  have e1 : pyOf μ (.loc p) = some (.list (a.map .int)) := by
    simp only [pyOf, h, pyFs_ints]
  have e2 : pyOf μ (.lst []) = some (.list []) := rfl
  have e3 : eqB μ (.loc p) (.lst []) = some a.isEmpty := by
    simp only [eqB, e1, e2]
    rw [if_pos ⟨shaped_ints a, by decide⟩, eqv_nil]
    cases a <;> rfl
  simp only [gEq, e3, Bool.bne_true]
/-- the place that is nearest -/
theorem min_loop {x : D} {s : Nat} {r9 r10 : Option D} {E' : DEnds} (h : Sm μ0 μ E n qs pf pc pw f cs a) (ha : ∀ z ∈ a, 0 ≤ z ∧ z < f.length) {z0 : Int} (hz0 : z0 ∈ a) (r8 : Option D)
    (fin : ∀ z r8, z ∈ a → (∀ y ∈ a, ltO (fat f y) (fat f z) = false) → E'.nx [some (.int n), some x, some (.int s), some (.lst (qs.map .loc)), some (.loc pf), some (.loc pc), some (.loc pw), some (.int z), r8, r9, r10] μ) :
    sFor (iSeq (dP (eV 6))) (dgName 8) (sGh (sIf (dPT (eTst (eFn G_is_less [] 2 (eCons (e2 gIx (eV 4) (eV 8)) (eCons (e2 gIx (eV 4) (eV 7)) eNil))))) (sAsg (dP (eV 8)) (dgName 7)) sNext)) E'
      [some (.int n), some x, some (.int s), some (.lst (qs.map .loc)), some (.loc pf), some (.loc pc), some (.loc pw), some (.int z0), r8, r9, r10] μ := by
  refine ⟨.loc pw, rfl, a.map .int, items_loc h.w, ?_⟩
  refine forL_ix (fun i ρ μ' => μ' = μ ∧ ∃ z r8, ρ = [some (.int n), some x, some (.int s), some (.lst (qs.map .loc)), some (.loc pf), some (.loc pc), some (.loc pw), some (.int z), r8, r9, r10] ∧ z ∈ a ∧ ∀ j y, j < i → a[j]? = some y → ltO (fat f y) (fat f z) = false)
    (fun i ρ μ' hQ => by rw [hQ.1]; exact h.w) (fun i y ρ μ' N' hy hQ hN => ?_) (fun ρ μ' hQ => ?_) ⟨rfl, z0, r8, rfl, hz0, fun j y hj => absurd hj (Nat.not_lt_zero j)⟩
  · obtain ⟨rfl, z, r8, rfl, hz, hmin⟩ := hQ
    rw [List.getElem?_map] at hy
    cases hai : a[i]? with
    | none => rw [hai] at hy; cases hy
    | some p =>
      rw [hai] at hy
      cases hy
      have hp := List.mem_of_getElem? hai
      have t1 : eTst (eFn G_is_less [] 2 (eCons (e2 gIx (eV 4) (eV 8)) (eCons (e2 gIx (eV 4) (eV 7)) eNil))) [some (.int n), some x, some (.int s), some (.lst (qs.map .loc)), some (.loc pf), some (.loc pc), some (.loc pw), some (.int z), some (.int p), r9, r10] μ' = some (ltO (fat f p) (fat f z)) := by
        simp only [eTst, eFn, eN, eCons, eNil, e2, eV, slot, Option.bind_some, h.ixF (ha p hp).1 (ha p hp).2, h.ixF (ha z hz).1 (ha z hz).2, List.append_nil, List.length_cons, List.length_nil, if_true, is_less_o]
      cases hl : ltO (fat f p) (fat f z) with
      | true =>
        rw [hl] at t1
        refine sIf_t t1 ⟨.int p, rfl, GhS.done (hN _ _ ⟨rfl, p, _, rfl, hp, fun j y hj hy => ?_⟩)⟩
        by_cases hji : j = i
        · subst hji
          rw [hai] at hy
          cases hy
          exact ltO_self _
        · exact ltO_step (hmin j y (by omega) hy) hl
      | false =>
        rw [hl] at t1
        refine sIf_f t1 (GhS.done (hN _ _ ⟨rfl, z, _, rfl, hz, fun j y hj hy => ?_⟩))
        by_cases hji : j = i
        · subst hji
          rw [hai] at hy
          cases hy
          exact hl
        · exact hmin j y (by omega) hy
  · obtain ⟨rfl, z, r8, rfl, hz, hmin⟩ := hQ
    refine fin z r8 hz fun y hy => ?_
    obtain ⟨j, hj⟩ := List.getElem?_of_mem hy
    exact hmin j y (by rw [List.length_map]; exact (List.getElem?_eq_some_iff.mp hj).1) hj
end
end K60
end

section
set_option maxRecDepth 100000
/-! S6: search, on. -/
namespace K60
open PySem PySem.Spec PyProof.Rows L2 DL Wl

theorem sSeq_i {t u : DS} {D : DEnds} {ρ : Ro} {μ : Mu} (h : t { D with nx := u D } ρ μ) : sSeq t u D ρ μ := h
theorem sGh_i {t : DS} {D : DEnds} {ρ : Ro} {μ : Mu} (h : t { D with nx := GhS D.nx, ct := GhS D.ct } ρ μ) : sGh t D ρ μ := h
theorem Ext.none {μ μ' : Mu} {p : Addr} (e : Ext μ μ') (h : μ' p = none) : μ p = none := by
  cases hm : μ p with
  | none => rfl
  | some m => rw [e p m hm] at h; cases h
theorem outs_get {E : List Edge} {a i : Nat} {y : D} (h : (outs E a)[i]? = some y) : ∃ (j v : Nat) (l : Int), y = .tup [.int j, .int v, .int l] ∧ (a, v, l) ∈ E := by
  have hm := List.mem_of_getElem? h
  unfold outs at hm
  obtain ⟨e, he, rfl⟩ := List.mem_map.mp hm
  obtain ⟨h1, h2⟩ := List.mem_filter.mp he
  obtain ⟨⟨u, v, l⟩, j⟩ := e
  have h3 : u = a := by simpa using h2
  subst h3
  have h4 := List.mem_zipIdx h1
  refine ⟨j, v, l, rfl, ?_⟩
  have h5 := h4.2.2
  simp only [Nat.sub_zero] at h5
  rw [h5]
  exact List.getElem_mem _
theorem outs_mem {E : List Edge} {a v : Nat} {l : Int} (h : (a, v, l) ∈ E) : ∃ (i j : Nat), (outs E a)[i]? = some (.tup [.int j, .int v, .int l]) := by
  obtain ⟨j, hj⟩ := List.getElem?_of_mem h
  have h1 : ((a, v, l), j) ∈ E.zipIdx := List.mem_zipIdx_iff_getElem?.mpr hj
  have h2 : D.tup [.int (j : Nat), .int (v : Nat), .int l] ∈ outs E a := by
    unfold outs
    refine List.mem_map.mpr ⟨((a, v, l), j), List.mem_filter.mpr ⟨h1, ?_⟩, rfl⟩
    simp
  obtain ⟨i, hi⟩ := List.getElem?_of_mem h2
  exact ⟨i, j, hi⟩
section
variable {μ0 μ : Mu} {E : List Edge} {n : Nat} {qs : List Addr} {pf pc pw : Addr} {f f0 : List (Option Int)} {cs : List D} {a : List Int}
theorem relax_loop {x : D} {s h : Nat} {dh : Int} {r8 r9 r10 : Option D} {E' : DEnds} (wf : Wf n E) (sm : Sm μ0 μ E n qs pf pc pw f0 cs a) (hh : h < n) (d0 : f0[h]? = some (some dh)) (fl : f0.length = n) (wk : ∀ (v : Nat) (d : Int), f0[v]? = some (some d) → Wk E s v d)
    (fin : ∀ μ' f' cs' r8 r9 r10, Sm μ0 μ' E n qs pf pc pw f' cs' a → Dr n E s h dh f0 f' (fun v l => (h, v, l) ∈ E) → E'.nx [some (.int n), some x, some (.int s), some (.lst (qs.map .loc)), some (.loc pf), some (.loc pc), some (.loc pw), some (.int h), r8, r9, r10] μ') :
    sFor (iSeq (dP (e2 gIx (eV 3) (eV 7)))) (dgTup 3 (dgCons (dgName 9) (dgCons (dgName 8) (dgCons (dgName 10) dgNil)))) (sGh (sIf (dPT (eTst (eFn G_is_less [] 2 (eCons (e2 gAdd (e2 gIx (eV 4) (eV 7)) (eV 10)) (eCons (e2 gIx (eV 4) (eV 8)) eNil))))) (sAsg (dP (eN DL.gTup (eCons (e2 gAdd (e2 gIx (eV 4) (eV 7)) (eV 10)) (eCons (eV 9) eNil)))) (dgTup 2 (dgCons (dgSub (dP (eV 4)) (dP (eV 8))) (dgCons (dgSub (dP (eV 5)) (dP (eV 8))) dgNil)))) sNext)) E'
      [some (.int n), some x, some (.int s), some (.lst (qs.map .loc)), some (.loc pf), some (.loc pc), some (.loc pw), some (.int h), r8, r9, r10] μ := by
  have hql : h < qs.length := by rw [sm.ql]; exact hh
  have hqh : qs[h]? = some qs[h] := List.getElem?_eq_getElem hql
  have e37 : e2 gIx (eV 3) (eV 7) [some (.int n), some x, some (.int s), some (.lst (qs.map .loc)), some (.loc pf), some (.loc pc), some (.loc pw), some (.int h), r8, r9, r10] μ = some (.loc qs[h]) := by
    simp only [e2, eV, slot, Option.bind_some]
    exact ix_lst (by rw [List.getElem?_map, hqh]; rfl)
  refine ⟨.loc qs[h], e37, outs E h, items_loc (sm.q h _ hqh), ?_⟩
  refine forL_ix (fun i ρ μ' => ∃ f' cs' r8 r9 r10, ρ = [some (.int n), some x, some (.int s), some (.lst (qs.map .loc)), some (.loc pf), some (.loc pc), some (.loc pw), some (.int h), r8, r9, r10] ∧ Sm μ0 μ' E n qs pf pc pw f' cs' a ∧ Dr n E s h dh f0 f' (fun v l => ∃ j, j < i ∧ ∃ k : Nat, (outs E h)[j]? = some (.tup [.int k, .int v, .int l])))
    (fun i ρ μ' hQ => by
      obtain ⟨f', cs', _, _, _, _, hS, _⟩ := hQ
      exact hS.q h _ hqh) (fun i y ρ μ' N' hy hQ hN => ?_) (fun ρ μ' hQ => ?_) ⟨f0, cs, r8, r9, r10, rfl, sm, (Dr.start fl wk).imp fun v l hP => ?_⟩
  · obtain ⟨f', cs', r8, r9, r10, rfl, hS, hD⟩ := hQ
    obtain ⟨j, v, l, rfl, he⟩ := outs_get hy
    refine ⟨[.int j, .int v, .int l], rfl, rfl, rfl, sGh_i ?_⟩
    obtain ⟨w1, w2, w3⟩ := wf _ _ _ he
    have hfl : f'.length = n := hD.len
    have hdh : f'[h]? = some (some dh) := hD.keep h dh d0 (Int.le_refl _)
    have hvl : v < f'.length := by omega
    have hv : f'[v]? = some (f'[v]?.getD none) := by rw [List.getElem?_eq_getElem hvl]; rfl
    have ih : gIx μ' (.loc pf) (.int (h : Nat)) = some (.int dh) := ix_loc hS.f (fget hdh)
    have iv : gIx μ' (.loc pf) (.int (v : Nat)) = some (oD (f'[v]?.getD none)) := ix_loc hS.f (fget hv)
    have il : G_is_less μ' [.int (dh + l), oD (f'[v]?.getD none)] = some (.bl (ltO (some (dh + l)) (f'[v]?.getD none))) := is_less_o (a := some (dh + l))
    have ea : e2 gAdd (e2 gIx (eV 4) (eV 7)) (eV 10) [some (.int n), some x, some (.int s), some (.lst (qs.map .loc)), some (.loc pf), some (.loc pc), some (.loc pw), some (.int h), some (.int v), some (.int j), some (.int l)] μ' = some (.int (dh + l)) := by
      simp only [e2, eV, slot, Option.bind_some, ih, gAdd]
    have t1 : eTst (eFn G_is_less [] 2 (eCons (e2 gAdd (e2 gIx (eV 4) (eV 7)) (eV 10)) (eCons (e2 gIx (eV 4) (eV 8)) eNil))) [some (.int n), some x, some (.int s), some (.lst (qs.map .loc)), some (.loc pf), some (.loc pc), some (.loc pw), some (.int h), some (.int v), some (.int j), some (.int l)] μ' = some (ltO (some (dh + l)) (f'[v]?.getD none)) := by
      have e48 : e2 gIx (eV 4) (eV 8) [some (.int n), some x, some (.int s), some (.lst (qs.map .loc)), some (.loc pf), some (.loc pc), some (.loc pw), some (.int h), some (.int v), some (.int j), some (.int l)] μ' = some (oD (f'[v]?.getD none)) := by
        simp only [e2, eV, slot, Option.bind_some, iv]
      simp only [eTst, eFn, eN, eCons, eNil, ea, e48, Option.bind_some, List.append_nil, List.length_cons, List.length_nil, if_true, il]
    have imp : ∀ (v' : Nat) (l' : Int), (∃ j', j' < i + 1 ∧ ∃ k : Nat, (outs E h)[j']? = some (.tup [.int k, .int v', .int l'])) → (∃ j', j' < i ∧ ∃ k : Nat, (outs E h)[j']? = some (.tup [.int k, .int v', .int l'])) ∨ (v' = v ∧ l' = l) := fun v' l' hP => by
      obtain ⟨j', h1, k, h2⟩ := hP
      by_cases hji : j' = i
      · subst hji
        rw [hy] at h2
        injection h2 with h2
        injection h2 with h2
        injection h2 with _ h2
        injection h2 with h3 h2
        injection h2 with h4 _
        injection h3 with h3
        injection h4 with h4
        exact .inr ⟨by omega, h4.symm⟩
      · exact .inl ⟨j', by omega, k, h2⟩
    cases hl : ltO (some (dh + l)) (f'[v]?.getD none) with
    | true =>
      rw [hl] at t1
      have ew : eN DL.gTup (eCons (e2 gAdd (e2 gIx (eV 4) (eV 7)) (eV 10)) (eCons (eV 9) eNil)) [some (.int n), some x, some (.int s), some (.lst (qs.map .loc)), some (.loc pf), some (.loc pc), some (.loc pw), some (.int h), some (.int v), some (.int j), some (.int l)] μ' = some (.tup [.int (dh + l), .int j]) := by
        have e9 : eV 9 [some (.int n), some x, some (.int s), some (.lst (qs.map .loc)), some (.loc pf), some (.loc pc), some (.loc pw), some (.int h), some (.int v), some (.int j), some (.int l)] μ' = some (.int j) := rfl
        simp only [eN, eCons, eNil, ea, e9, Option.bind_some, DL.gTup, List.length_cons, List.length_nil, Nat.reduceAdd, Nat.reduceLeDiff, if_true]
      have hS1 := hS.setF (f' := f'.set v (some (dh + l)))
      rw [List.map_set] at hS1
      have hcv : v < cs'.length := by rw [hS.cl]; exact w2
      refine sIf_t t1 ⟨.tup [.int (dh + l), .int j], ew, [.int (dh + l), .int j], rfl, rfl, ⟨.loc pf, rfl, .int v, rfl, lstAt_i hS.f ⟨v, ixN_nat (by rw [List.length_map]; exact hvl), ?_⟩⟩⟩
      refine ⟨.loc pc, rfl, .int v, rfl, lstAt_i hS1.c ⟨v, ixN_nat hcv, rfl, GhS.done (hN _ _ ⟨_, _, _, _, _, rfl, hS1.setC (by rw [List.length_set]; exact hS.cl), (hD.turn wf (wk h dh d0) he hl).imp imp⟩)⟩⟩
    | false =>
      rw [hl] at t1
      exact sIf_f t1 (GhS.done (hN _ _ ⟨_, _, _, _, _, rfl, hS, (hD.skip wf he hl).imp imp⟩))
  · obtain ⟨f', cs', r8, r9, r10, rfl, hS, hD⟩ := hQ
    refine fin _ f' cs' _ _ _ hS (hD.imp fun v l hm => ?_)
    obtain ⟨i, j, hi⟩ := outs_mem hm
    exact ⟨i, (List.getElem?_eq_some_iff.mp hi).1, j, hi⟩
  · obtain ⟨j, hj, _⟩ := hP
    exact absurd hj (Nat.not_lt_zero j)
end
theorem rep_non (n : Nat) : (List.replicate n [D.non]).flatten = (List.replicate n (none : Option Int)).map oD := by
  induction n with
  | zero => rfl
  | succ n ih =>
    rw [List.replicate_succ, List.replicate_succ, List.flatten_cons, List.map_cons, ih]
    rfl
theorem rg_ints (n : Nat) : rgD 0 n = ((List.range n).map fun (i : Nat) => (i : Int)).map D.int := by
  unfold rgD
  rw [List.map_map]
  refine List.map_congr_left fun i _ => ?_
  show D.int (0 + (i : Int)) = D.int (i : Int)
  rw [Int.zero_add]
theorem ltO_none {a : Option Int} (h : ltO a none = false) : a = none := by
  cases a with
  | none => rfl
  | some _ => cases h
theorem sem_search (ds : List D) (μ : Mu) (kont : DK) (h : S_search ds μ kont) : bd_search S_ties_from G_is_less { nx := fun _ μ' => GhV kont .non μ', rt := GhV kont } (startD N_search ds) μ := by
  obtain ⟨n, x, E, s, rfl, hx, wf, hs, hn, hl, hk⟩ := h
  unfold bd_search
  refine sSeq_i ?_
  refine ⟨[.int n, x], rfl, rfl, n, x, E, rfl, hx, fun e he => (wf _ _ _ he).1, hn, hl, fun qs μ1 hql e1 _ hq0 hq1 => ?_⟩
  refine ⟨[.non], rfl, by decide, fun p hp => ⟨.int n, rfl, [.non], itemsM_loc updM_same, ⟨⟨by omega, by omega⟩, ?_⟩, fun pf hpf => ?_⟩⟩
  · rw [List.length_singleton, Int.toNat_natCast]; omega
  refine ⟨[.non], rfl, by decide, fun p' hp' => ⟨.int n, rfl, [.non], itemsM_loc updM_same, ⟨⟨by omega, by omega⟩, ?_⟩, fun pc hpc => ?_⟩⟩
  · rw [List.length_singleton, Int.toNat_natCast]; omega
  refine ⟨n, rfl, ⟨by omega, by omega⟩, fun pw hpw => ⟨[], rfl, by show (4 : Nat) ≤ 100000; omega, ?_⟩⟩
  have x1 : Ext μ1 (updM μ1 p (.lst [D.non])) := Ext.new (Ext.refl _) hp
  have x2 := Ext.new (m := .lst (List.replicate (n : Int).toNat [D.non]).flatten) (Ext.refl (updM μ1 p (.lst [D.non]))) hpf
  have x3 := Ext.new (m := .lst [D.non]) (Ext.refl (updM (updM μ1 p (.lst [D.non])) pf (.lst (List.replicate (n : Int).toNat [D.non]).flatten))) hp'
  have x4 := Ext.new (m := .lst (List.replicate (n : Int).toNat [D.non]).flatten) (Ext.refl (updM (updM (updM μ1 p (.lst [D.non])) pf (.lst (List.replicate (n : Int).toNat [D.non]).flatten)) p' (.lst [D.non]))) hpc
  have x5 := Ext.new (m := .lst (rgD 0 (n : Int).toNat)) (Ext.refl _) hpw
  refine ⟨_, rfl, rfl, rfl, ?_⟩
  have e05 := e1.trans (x1.trans (x2.trans (x3.trans (x4.trans x5))))
  have hf5 := (x3.trans (x4.trans x5)) pf _ updM_same
  have hc5 := x5 pc _ updM_same
  have nf : μ pf = none := Ext.none (e1.trans x1) hpf
  have nc : μ pc = none := Ext.none (e1.trans (x1.trans (x2.trans x3))) hpc
  have nw : μ pw = none := Ext.none (e1.trans (x1.trans (x2.trans (x3.trans x4)))) hpw
  have fc : pc ≠ pf := fun z => by
    subst z
    rw [x3 pc _ updM_same] at hpc
    cases hpc
  have fw : pw ≠ pf := fun z => by
    subst z
    rw [(x3.trans x4) pw _ updM_same] at hpw
    cases hpw
  have cw : pw ≠ pc := fun z => by
    subst z
    rw [updM_same] at hpw
    cases hpw
  have hq5 : ∀ (i : Nat) (r : Addr), qs[i]? = some r → updM (updM (updM (updM (updM μ1 p (.lst [D.non])) pf (.lst (List.replicate (n : Int).toNat [D.non]).flatten)) p' (.lst [D.non])) pc (.lst (List.replicate (n : Int).toNat [D.non]).flatten)) pw (.lst (rgD 0 (n : Int).toNat)) r = some (.lst (outs E i)) := fun i r hr => (x1.trans (x2.trans (x3.trans (x4.trans x5)))) r _ (hq1 i r hr)
  have mq : ∀ q ∈ qs, ∃ i : Nat, qs[i]? = some q := fun q hq => List.getElem?_of_mem hq
  rw [Int.toNat_natCast] at hf5 hc5 hq5
  rw [Int.toNat_natCast] at x2 x3 x4 x5 hpw hpc hp'
  have sm : Sm μ (updM (updM (updM (updM (updM μ1 p (.lst [D.non])) pf (.lst (List.replicate n [D.non]).flatten)) p' (.lst [D.non])) pc (.lst (List.replicate n [D.non]).flatten)) pw (.lst (rgD 0 n))) E n qs pf pc pw (List.replicate n none) (List.replicate n [D.non]).flatten ((List.range n).map fun (i : Nat) => (i : Int)) := by
    refine ⟨?_, nf, nc, nw, fc, fw, cw, fun q hq z => ?_, fun q hq z => ?_, fun q hq z => ?_, hql, hq5, ?_, hc5, ?_, ?_⟩
    · rw [Int.toNat_natCast] at e05
      exact e05
    · obtain ⟨i, hi⟩ := mq q hq
      have := x1 q _ (hq1 i q hi)
      rw [z, hpf] at this
      cases this
    · obtain ⟨i, hi⟩ := mq q hq
      have := (x1.trans (x2.trans x3)) q _ (hq1 i q hi)
      rw [z, hpc] at this
      cases this
    · obtain ⟨i, hi⟩ := mq q hq
      have := (x1.trans (x2.trans (x3.trans x4))) q _ (hq1 i q hi)
      rw [z, hpw] at this
      cases this
    · rw [hf5, rep_non]
    · rw [rep_non, List.length_map, List.length_replicate]
    · rw [updM_same, rg_ints]
  rw [Int.toNat_natCast]
  refine sSeq_i ⟨.int 0, rfl, .loc pf, rfl, .int s, rfl, lstAt_i sm.f ⟨s, ixN_nat (by rw [List.length_map, List.length_replicate]; exact hs), sSeq_i ?_⟩⟩
  have sm1 := sm.setF (f' := (List.replicate n none).set s (some 0))
  rw [List.map_set] at sm1
  refine while_by (fun m ρ μ' => ∃ f cs a r7 r8 r9 r10, ρ = [some (.int n), some x, some (.int s), some (.lst (qs.map .loc)), some (.loc pf), some (.loc pc), some (.loc pw), r7, r8, r9, r10] ∧ Sm μ μ' E n qs pf pc pw f cs a ∧ Dj n E s a f ∧ a.Nodup ∧ (∀ z ∈ a, 0 ≤ z ∧ z < (n : Int)) ∧ a.length = m)
    n ⟨_, _, _, none, none, none, none, rfl, sm1, Dj.start hs fun u hu => List.mem_map.mpr ⟨u, List.mem_range.mpr hu, rfl⟩, ?_, fun z hz => ?_, by rw [List.length_map, List.length_range]⟩ fun m ρ μ' hW => ?_
  · exact List.pairwise_map.mpr (List.nodup_range.imp fun hab q => hab (by omega))
  · obtain ⟨i, hi, rfl⟩ := List.mem_map.mp hz
    rw [List.mem_range] at hi
    omega
  · obtain ⟨f, cs, a, r7, r8, r9, r10, rfl, hS, hD, hnd, hb, hm⟩ := hW
    refine ⟨!a.isEmpty, ?_, fun hb1 N hN => ?_, fun hb0 => ?_⟩
    · have eg : eN DL.gLst eNil [some (.int n), some x, some (.int s), some (.lst (qs.map .loc)), some (.loc pf), some (.loc pc), some (.loc pw), r7, r8, r9, r10] μ' = some (.lst []) := rfl
      simp only [eTst, e2, eV, slot, Option.bind_some, eg, ne_nil_ints hS.w]
    · cases a with
      | nil => cases hb1
      | cons z0 r =>
        refine sGh_i (sSeq_i ⟨.int z0, ?_, sSeq_i ?_⟩)
        · simp only [e2, eV, eC, slot, Option.bind_some]
          exact ix_loc0 hS.w
        refine min_loop hS (fun z hz => ⟨(hb z hz).1, by rw [hD.len]; exact (hb z hz).2⟩) List.mem_cons_self r8 fun z r8' hz hmin => ?_
        refine sSeq_i ⟨.loc pw, rfl, ⟨_, itemsL_loc hS.w⟩, .int z, rfl, lstAt_i hS.w ⟨z0 :: r, intsOf_map _, hz, ?_⟩⟩
        have hS2 := hS.setW (a' := (z0 :: r).erase z)
        obtain ⟨hz0, hzn⟩ := hb z hz
        obtain ⟨h, rfl⟩ : ∃ h : Nat, z = (h : Int) := ⟨z.toNat, by omega⟩
        have hhn : h < n := by omega
        have hix := hS2.ixF hz0 (by rw [hD.len]; exact hzn)
        have t1 : eTst (e2 (gIs false) (e2 gIx (eV 4) (eV 7)) (eC .non)) [some (.int n), some x, some (.int s), some (.lst (qs.map .loc)), some (.loc pf), some (.loc pc), some (.loc pw), some (.int (h : Nat)), r8', r9, r10] (updM μ' pw (.lst (((z0 :: r).erase (h : Int)).map .int))) = some (fat f h).isNone := by
          simp only [eTst, e2, eV, eC, slot, Option.bind_some, hix, gIs, oD_isN]
          cases (fat f h) <;> rfl
        have fg : ∀ v : Nat, v < n → f[v]? = some (fat f (v : Int)) := fun v hv => by
          have := fat_get (f := f) (z := (v : Int)) (by omega) (by rw [hD.len]; omega)
          rw [Int.toNat_natCast] at this
          exact this
        cases hfa : fat f (h : Int) with
        | none =>
          rw [hfa] at t1
          refine sSeq_i (sIf_t t1 ⟨.tup [.loc pf, .loc pc], rfl, hS2.ret fun ds => ?_⟩)
          rw [hD.fin wf hs fun v hva hvn => by
            have := hmin v hva
            rw [hfa] at this
            rw [fg v hvn, ltO_none this]]
          exact hk ds
        | some dh =>
          rw [hfa] at t1
          have hfh := fg h hhn
          rw [hfa] at hfh
          refine sSeq_i (sIf_f t1 ?_)
          refine relax_loop wf hS2 hhn hfh hD.len hD.wk fun μ'' f' cs' q8 q9 q10 hS3 hR => ?_
          refine GhS.done (hN ((z0 :: r).erase (h : Int)).length _ _ ?_ ⟨f', cs', _, _, q8, q9, q10, rfl, hS3, ?_, hnd.erase _, fun z hz => hb z (List.mem_of_mem_erase hz), rfl⟩)
          · rw [List.length_erase_of_mem hz, ← hm]
            simp only [List.length_cons]
            omega
          · refine hD.next wf hnd hz hhn hfh (fun v hva hvn dv hdv => ?_) hs hR
            have := hmin v hva
            rw [fg v hvn] at hdv
            rw [Option.some.inj hdv, hfa] at this
            have := of_decide_eq_false this
            omega
    · cases a with
      | cons z r => cases hb0
      | nil =>
        refine ⟨.tup [.loc pf, .loc pc], rfl, hS.ret fun ds => ?_⟩
        rw [hD.fin wf hs fun v hva hvn => absurd hva (by simp)]
        exact hk ds
end K60
end

section
set_option maxRecDepth 100000
/-! S7: rows, tables. -/
namespace K60
open PySem PySem.Spec PyProof.Rows L2 DL Wl

/-- a def told by what holds of its value -/
noncomputable def gBy (R : Mu → List D → D → Prop) (μ : Mu) (ds : List D) : Option D := by
  classical exact if h : ∃ r, R μ ds r then some (Classical.choose h) else none
theorem gBy_spec {R : Mu → List D → D → Prop} {μ : Mu} {ds : List D} {d : D} (h : gBy R μ ds = some d) : R μ ds d := by
  unfold gBy at h
  split at h
  · next hx =>
    cases h
    exact Classical.choose_spec hx
  · cases h
theorem gBy_eq {R : Mu → List D → D → Prop} {μ : Mu} {ds : List D} {d : D} (h : R μ ds d) (u : ∀ d', R μ ds d' → d' = d) : gBy R μ ds = some d := by
  have hx : ∃ r, R μ ds r := ⟨d, h⟩
  unfold gBy
  rw [dif_pos hx, u _ (Classical.choose_spec hx)]
theorem edgeD_inj {e e' : Edge} (h : edgeD e = edgeD e') : e = e' := by
  obtain ⟨a, b, l⟩ := e
  obtain ⟨a', b', l'⟩ := e'
  simp only [edgeD, D.tup.injEq, List.cons.injEq, D.int.injEq, and_true] at h
  obtain ⟨h1, h2, h3⟩ := h
  rw [Int.ofNat_inj.mp h1, Int.ofNat_inj.mp h2, h3]
theorem edges_inj : ∀ {E E' : List Edge}, E.map edgeD = E'.map edgeD → E = E'
  | [], [], _ => rfl
  | [], _ :: _, h => by cases h
  | _ :: _, [], h => by cases h
  | e :: r, e' :: r', h => by
    simp only [List.map_cons, List.cons.injEq] at h
    rw [edgeD_inj h.1, edges_inj h.2]
/-- a list of lengths from a place, in W -/
def RowR (W : List D → D) (μ : Mu) (ds : List D) (r : D) : Prop := ∃ n x E s, ds = [.int (n : Nat), x, .int (s : Nat)] ∧ items μ x = some (E.map edgeD) ∧ Wf n E ∧ s < n ∧ n ≤ 1000 ∧ E.length ≤ 1000 ∧ r = W ((rowOf n E s).map oD)
theorem row_eq {W : List D → D} {μ : Mu} {n s : Nat} {x : D} {E : List Edge} (hx : items μ x = some (E.map edgeD)) (wf : Wf n E) (hs : s < n) (hn : n ≤ 1000) (hl : E.length ≤ 1000) : gBy (RowR W) μ [.int n, x, .int s] = some (W ((rowOf n E s).map oD)) := by
  refine gBy_eq ⟨n, x, E, s, rfl, hx, wf, hs, hn, hl, rfl⟩ fun d' h => ?_
  obtain ⟨n', x', E', s', h1, h2, _, _, _, _, rfl⟩ := h
  simp only [List.cons.injEq, D.int.injEq, and_true] at h1
  obtain ⟨h1, h3, h4⟩ := h1
  subst h3
  rw [hx] at h2
  rw [← edges_inj (Option.some.inj h2), Int.ofNat_inj.mp h1, Int.ofNat_inj.mp h4]
noncomputable def G_lengths_from : Mu → List D → Option D := gBy (RowR .lst)
noncomputable def G__law_row : Mu → List D → Option D := gBy (RowR .tup)
theorem oget {n : Nat} {E : List Edge} {s t : Nat} (h : t < n) : ((rowOf n E s).map oD)[t]? = some (oD (dist E s t)) := by
  rw [List.getElem?_map, rowOf_get h]
  rfl
theorem sem_lengths_from (ds : List D) (μ : Mu) (kont : DK) (h : pN G_lengths_from ds μ kont) : bd_lengths_from S_search { nx := fun _ μ' => GhV kont .non μ', rt := GhV kont } (startD N_lengths_from ds) μ := by
  obtain ⟨d, hd, hk⟩ := h
  obtain ⟨n, x, E, s, rfl, hx, wf, hs, hn, hl, rfl⟩ := gBy_spec hd
  unfold bd_lengths_from
  refine ⟨[.int n, x, .int s], rfl, rfl, n, x, E, s, rfl, hx, wf, hs, hn, hl, fun cs => ⟨.int 0, rfl, _, ix_tup (j := 0) rfl, GhV.done hk⟩⟩
theorem items_ext {μ μ' : Mu} {x : D} {ds : List D} (h : items μ x = some ds) (e : Ext μ μ') : items μ' x = some ds := by
  cases x with
  | loc p =>
    simp only [items] at h ⊢
    cases hm : μ p with
    | none => rw [hm] at h; cases h
    | some m => rw [e p m hm]; rw [hm] at h; exact h
  | _ => exact h
theorem ok_ext {μ μ' : Mu} {x : D} {ds : List D} (h : items μ x = some ds) (e : Ext μ μ') : okOf x ds μ' := by
  cases x with
  | loc p =>
    simp only [items] at h
    simp only [okOf]
    cases hm : μ p with
    | none => rw [hm] at h; cases h
    | some m =>
      rw [hm] at h
      rw [e p m hm]
      cases m <;> simp only at h <;> cases h
      rfl
  | _ => exact trivial
theorem seq_items {μ : Mu} {x : D} {ds : List D} (h : items μ x = some ds) : seqI μ x = some ds := by
  cases x <;> first | exact h | cases h
section
variable {μ0 μ : Mu} {E : List Edge} {n s : Nat} {p : Addr} {f0 : List (Option Int)} {x : D}
theorem round_loop {t : Int} {r6 r7 r8 : Option D} {E' : DEnds} (wf : Wf n E) (hx : items μ0 x = some (E.map edgeD)) (np : μ0 p = none) (e0 : Ext μ0 μ) (hp : μ p = some (.lst (f0.map oD))) (fl : f0.length = n) (wk : ∀ (v : Nat) (d : Int), f0[v]? = some (some d) → Wk E s v d)
    (fin : ∀ μ' f c r6 r7 r8, Ext μ0 μ' → μ' p = some (.lst (f.map oD)) → Rt n E s f0 f (fun e => e ∈ E) c → E'.nx [some (.int n), some x, some (.int s), some (.loc p), some (.int t), some (.bl c), r6, r7, r8] μ') :
    sFor (iSeq (dP (eV 1))) (dgTup 3 (dgCons (dgName 6) (dgCons (dgName 7) (dgCons (dgName 8) dgNil)))) (sGh (sIf (dPT (eAndT (eTst (e2 (gIs true) (e2 gIx (eV 3) (eV 6)) (eC .non))) (eOrT (eTst (e2 (gIs false) (e2 gIx (eV 3) (eV 7)) (eC .non))) (eTst (e2 (gCmpI fun i j => decide (i < j)) (e2 gAdd (e2 gIx (eV 3) (eV 6)) (eV 8)) (e2 gIx (eV 3) (eV 7))))))) (sAsg (dP (eN DL.gTup (eCons (e2 gAdd (e2 gIx (eV 3) (eV 6)) (eV 8)) (eCons (eC (.bl true)) eNil)))) (dgTup 2 (dgCons (dgSub (dP (eV 3)) (dP (eV 7))) (dgCons (dgName 5) dgNil)))) sNext)) E'
      [some (.int n), some x, some (.int s), some (.loc p), some (.int t), some (.bl false), r6, r7, r8] μ := by
  refine ⟨x, rfl, E.map edgeD, seq_items (items_ext hx e0), ?_⟩
  refine forL_ix (fun i ρ μ' => ∃ f c r6 r7 r8, ρ = [some (.int n), some x, some (.int s), some (.loc p), some (.int t), some (.bl c), r6, r7, r8] ∧ Ext μ0 μ' ∧ μ' p = some (.lst (f.map oD)) ∧ Rt n E s f0 f (fun e => ∃ j, j < i ∧ E[j]? = some e) c)
    (fun i ρ μ' hQ => by
      obtain ⟨_, _, _, _, _, _, he, _⟩ := hQ
      exact ok_ext hx he) (fun i y ρ μ' N' hy hQ hN => ?_) (fun ρ μ' hQ => ?_) ⟨f0, false, r6, r7, r8, rfl, e0, hp, (Rt.start fl wk).imp fun e hP => ?_⟩
  · obtain ⟨f, c, r6, r7, r8, rfl, he, hp, hR⟩ := hQ
    rw [List.getElem?_map] at hy
    cases hEi : E[i]? with
    | none => rw [hEi] at hy; cases hy
    | some e =>
      rw [hEi] at hy
      cases hy
      obtain ⟨a, b, l⟩ := e
      have hm := List.mem_of_getElem? hEi
      refine ⟨[.int a, .int b, .int l], rfl, rfl, rfl, sGh_i ?_⟩
      obtain ⟨w1, w2, w3⟩ := wf _ _ _ hm
      have hal : a < f.length := by rw [hR.len]; exact w1
      have hbl : b < f.length := by rw [hR.len]; exact w2
      have ha : f[a]? = some (f[a]?.getD none) := by rw [List.getElem?_eq_getElem hal]; rfl
      have hb : f[b]? = some (f[b]?.getD none) := by rw [List.getElem?_eq_getElem hbl]; rfl
      have ia : gIx μ' (.loc p) (.int (a : Nat)) = some (oD (f[a]?.getD none)) := ix_loc hp (fget ha)
      have ib : gIx μ' (.loc p) (.int (b : Nat)) = some (oD (f[b]?.getD none)) := ix_loc hp (fget hb)
      have imp : ∀ e, (∃ j, j < i + 1 ∧ E[j]? = some e) → (∃ j, j < i ∧ E[j]? = some e) ∨ e = (a, b, l) := fun e hP => by
        obtain ⟨j, h1, h2⟩ := hP
        by_cases hji : j = i
        · subst hji
          rw [hEi] at h2
          exact .inr (Option.some.inj h2).symm
        · exact .inl ⟨j, by omega, h2⟩
      have t1 : eAndT (eTst (e2 (gIs true) (e2 gIx (eV 3) (eV 6)) (eC .non))) (eOrT (eTst (e2 (gIs false) (e2 gIx (eV 3) (eV 7)) (eC .non))) (eTst (e2 (gCmpI fun i j => decide (i < j)) (e2 gAdd (e2 gIx (eV 3) (eV 6)) (eV 8)) (e2 gIx (eV 3) (eV 7))))) [some (.int n), some x, some (.int s), some (.loc p), some (.int t), some (.bl c), some (.int a), some (.int b), some (.int l)] μ' = some (ltO (addO (f[a]?.getD none) (some l)) (f[b]?.getD none)) := by
        simp only [eAndT, eOrT, eTst, e2, eV, eC, slot, Option.bind_some, ia, ib, gIs, oD_isN]
        cases f[a]?.getD none with
        | none => rfl
        | some da =>
          cases f[b]?.getD none with
          | none => rfl
          | some db => rfl
      cases hl : ltO (addO (f[a]?.getD none) (some l)) (f[b]?.getD none) with
      | true =>
        rw [hl] at t1
        cases hda : f[a]?.getD none with
        | none => rw [hda] at hl; cases hl
        | some da =>
          rw [hda] at hl ha ia
          have ea : e2 gAdd (e2 gIx (eV 3) (eV 6)) (eV 8) [some (.int n), some x, some (.int s), some (.loc p), some (.int t), some (.bl c), some (.int a), some (.int b), some (.int l)] μ' = some (.int (da + l)) := by
            simp only [e2, eV, slot, Option.bind_some, ia, oD, gAdd]
          have ew : eN DL.gTup (eCons (e2 gAdd (e2 gIx (eV 3) (eV 6)) (eV 8)) (eCons (eC (.bl true)) eNil)) [some (.int n), some x, some (.int s), some (.loc p), some (.int t), some (.bl c), some (.int a), some (.int b), some (.int l)] μ' = some (.tup [.int (da + l), .bl true]) := by
            simp only [eN, eCons, eNil, ea, eC, Option.bind_some, DL.gTup, List.length_cons, List.length_nil, Nat.reduceAdd, Nat.reduceLeDiff, if_true]
          have hp1 : updM μ' p (.lst ((f.map oD).set b (.int (da + l)))) p = some (.lst ((f.set b (some (da + l))).map oD)) := by
            rw [updM_same, List.map_set]
            rfl
          refine sIf_t t1 ⟨.tup [.int (da + l), .bl true], ew, [.int (da + l), .bl true], rfl, rfl, ⟨.loc p, rfl, .int b, rfl, lstAt_i hp ⟨b, ixN_nat (by rw [List.length_map]; exact hbl), rfl, ?_⟩⟩⟩
          exact GhS.done (hN _ _ ⟨_, _, _, _, _, rfl, Ext.new he np, hp1, (hR.turn wf hm ha hl).imp imp⟩)
      | false =>
        rw [hl] at t1
        refine sIf_f t1 (GhS.done (hN _ _ ⟨_, _, _, _, _, rfl, he, hp, (hR.skip wf hm fun da hda => ?_).imp imp⟩))
        rw [hda] at hl
        exact hl
  · obtain ⟨f, c, r6, r7, r8, rfl, he, hp, hR⟩ := hQ
    refine fin μ' f c _ _ _ he hp (hR.imp fun e hm => ?_)
    obtain ⟨j, hj⟩ := List.getElem?_of_mem hm
    exact ⟨j, by rw [List.length_map]; exact (List.getElem?_eq_some_iff.mp hj).1, hj⟩
  · obtain ⟨j, hj, _⟩ := hP
    exact absurd hj (Nat.not_lt_zero j)
end
theorem rg_get {n i : Nat} {y : D} (h : (rgD 0 n)[i]? = some y) : y = .int (i : Nat) ∧ i < n := by
  unfold rgD at h
  rw [List.getElem?_map] at h
  by_cases hi : i < n
  · rw [List.getElem?_range hi] at h
    cases h
    exact ⟨by show D.int (0 + (i : Int)) = _; rw [Int.zero_add], hi⟩
  · rw [List.getElem?_eq_none (by rw [List.length_range]; omega)] at h
    cases h
theorem rg_len (n : Nat) : (rgD 0 n).length = n := by
  unfold rgD
  rw [List.length_map, List.length_range]
theorem sem__law_row (ds : List D) (μ : Mu) (kont : DK) (h : pN G__law_row ds μ kont) : bd__law_row { nx := fun _ μ' => GhV kont .non μ', rt := GhV kont } (startD N__law_row ds) μ := by
  obtain ⟨d, hd, hk⟩ := h
  obtain ⟨n, x, E, s, rfl, hx, wf, hs, hn, hl, rfl⟩ := gBy_spec hd
  unfold bd__law_row
  refine sSeq_i ⟨[.non], rfl, by decide, fun q hq => ⟨.int n, rfl, [.non], itemsM_loc updM_same, ⟨⟨by omega, by omega⟩, ?_⟩, fun p hp => ?_⟩⟩
  · rw [List.length_singleton, Int.toNat_natCast]; omega
  have x1 : Ext μ (updM μ q (.lst [D.non])) := Ext.new (Ext.refl _) hq
  have np : μ p = none := Ext.none x1 hp
  rw [Int.toNat_natCast]
  have hp2 : updM (updM μ q (.lst [D.non])) p (.lst (List.replicate n [D.non]).flatten) p = some (.lst ((List.replicate n (none : Option Int)).map oD)) := by rw [updM_same, rep_non]
  have e2' : Ext μ (updM (updM μ q (.lst [D.non])) p (.lst (List.replicate n [D.non]).flatten)) := Ext.new x1 np
  refine sSeq_i ⟨.int 0, rfl, .loc p, rfl, .int s, rfl, lstAt_i hp2 ⟨s, ixN_nat (by rw [List.length_map, List.length_replicate]; exact hs), sSeq_i ?_⟩⟩
  have st := Dj.start (E := E) (a := (List.range n).map fun (i : Nat) => (i : Int)) hs fun u hu => List.mem_map.mpr ⟨u, List.mem_range.mpr hu, rfl⟩
  have hp3 : updM (updM (updM μ q (.lst [D.non])) p (.lst (List.replicate n [D.non]).flatten)) p (.lst (((List.replicate n (none : Option Int)).map oD).set s (.int 0))) p = some (.lst (((List.replicate n (none : Option Int)).set s (some 0)).map oD)) := by
    rw [updM_same, List.map_set]
    rfl
  have fn : ∀ μ' f r4 r5 r6 r7 r8, Ext μ μ' → μ' p = some (.lst (f.map oD)) → f = rowOf n E s → sRet (dP (eN gTuple (eCons (eV 3) eNil))) { nx := fun _ μ' => GhV kont .non μ', rt := GhV kont } [some (.int n), some x, some (.int s), some (.loc p), r4, r5, r6, r7, r8] μ' := fun μ' f r4 r5 r6 r7 r8 he hp hf => by
    refine ⟨.tup (f.map oD), ?_, ?_⟩
    · simp only [eN, eCons, eNil, eV, slot, Option.bind_some, gTuple, items_loc hp]
    · rw [hf]
      exact GhV.drop μ he (GhV.done hk)
  refine ⟨[.int n], rfl, ⟨by omega, by omega⟩, ?_⟩
  rw [Int.toNat_natCast]
  refine forL_ix (fun i ρ μ' => ∃ f r4 r5 r6 r7 r8, ρ = [some (.int n), some x, some (.int s), some (.loc p), r4, r5, r6, r7, r8] ∧ Ext μ μ' ∧ μ' p = some (.lst (f.map oD)) ∧ f.length = n ∧ f[s]? = some (some 0) ∧ (∀ (v : Nat) (d : Int), f[v]? = some (some d) → Wk E s v d) ∧ openN n E s f ≤ n - i)
    (fun _ _ _ _ => trivial) (fun i y ρ μ' N' hy hQ hN => ?_) (fun ρ μ' hQ => ?_) ⟨_, none, none, none, none, none, rfl, Ext.new e2' np, hp3, st.len, st.s0, st.wk, open_le⟩
  · obtain ⟨f, r4, r5, r6, r7, r8, rfl, he, hp, hfl, hf0, hwk, hop⟩ := hQ
    obtain ⟨rfl, hin⟩ := rg_get hy
    refine sGh_i (sSeq_i ⟨.bl false, rfl, sSeq_i ?_⟩)
    refine round_loop (t := (i : Nat)) wf hx np he hp hfl hwk fun μ'' f' c q6 q7 q8 he' hp' hR => ?_
    have hs' : f'[s]? = some (some 0) := by
      have h0 := hR.stay wf hfl (v := s) (by rw [dist_self wf]; exact hf0)
      rw [dist_self wf] at h0
      exact h0
    have t1 : eNotT (eTst (eV 5)) [some (.int n), some x, some (.int s), some (.loc p), some (.int (i : Nat)), some (.bl c), q6, q7, q8] μ'' = some (!c) := rfl
    cases c with
    | true =>
      refine sIf_f t1 (GhS.done (hN _ _ ⟨f', _, _, _, _, _, rfl, he', hp', hR.len, hs', hR.wk, ?_⟩))
      have := hR.less wf hs hfl hwk hf0
      omega
    | false =>
      exact sIf_t t1 (fn _ _ _ _ _ _ _ he' hp' (hR.fin hs'))
  · obtain ⟨f, r4, r5, r6, r7, r8, rfl, he, hp, hfl, hf0, hwk, hop⟩ := hQ
    rw [rg_len] at hop
    exact fn _ _ _ _ _ _ _ he hp (open0 hfl (by omega))
/-! ### tables -/
def rowT (r : List (Option Int)) : D := .tup (r.map oD)
def tabT (t : List (List (Option Int))) : D := .tup (t.map rowT)
section
variable {μ : Mu}
noncomputable def G_lengths_of  : Mu → List D → Option D := gOf N_lengths_of (ev_lengths_of G_lengths_from )
noncomputable def G_lengths  : Mu → List D → Option D := gOf N_lengths (ev_lengths G_check_map G_lengths_of )
noncomputable def G__law_lengths  : Mu → List D → Option D := gOf N__law_lengths (ev__law_lengths G__law_row )
def G__law_map_now  : Mu → List D → Option D := gOf N__law_map_now (ev__law_map_now  )
theorem tab_map (n : Nat) (E : List Edge) : (tab n E).map rowT = (List.range n).map fun s => rowT (rowOf n E s) := by
  unfold tab
  rw [List.map_map]
  rfl
theorem law_lengths_eq {x : D} {n : Nat} {E : List Edge} (hx : items μ x = some (E.map edgeD)) (wf : Wf n E) (hn : n ≤ 1000) (hl : E.length ≤ 1000) : G__law_lengths μ [.int n, x] = some (tabT (tab n E)) := by
  have key : lcGo (egName 2) eYes (eFn G__law_row [] 3 (eCons (eV 0) (eCons (eV 1) (eCons (eV 2) eNil)))) [some (.int n), some x, none] μ (rgD 0 n) = some ((List.range n).map fun s => rowT (rowOf n E s)) := by
    refine lcGo_map (fun (i : Nat) => D.int (0 + (i : Int))) (fun s => rowT (rowOf n E s)) _ fun i hi => ⟨[some (.int n), some x, some (.int (0 + (i : Int)))], rfl, rfl, ?_⟩
    rw [List.mem_range] at hi
    have := row_eq (W := .tup) hx wf hi hn hl
    rw [Int.zero_add]
    simp only [eFn, eN, eCons, eNil, eV, slot, Option.bind_some, List.append_nil, List.length_cons, List.length_nil, if_true]
    exact this
  have h4 : ((n : Nat) : Int) ≤ 100000 := by omega
  have h5 : (-100000 : Int) ≤ ((n : Nat) : Int) := by omega
  have h6 : n ≤ 100000 := by omega
  simp [G__law_lengths, gOf, startD, N__law_lengths, ev__law_lengths, zRet, eN, eCons, eNil, eLc, ipRg1, eV, slot, unsetAll, setS, h4, h5, rg_len, h6, key, gTuple, items, tabT, tab_map]
theorem lengths_of_eq {n : Nat} {E : List Edge} (wf : Wf n E) (hn : n ≤ 1000) (hl : E.length ≤ 1000) : G_lengths_of μ [roadsD n E] = some (tabT (tab n E)) := by
  have key : lcGo (egName 1) eYes (eN gTuple (eCons (eFn G_lengths_from [] 3 (eCons (e2 gIx (eV 0) (eC (.int 0))) (eCons (e2 gIx (eV 0) (eC (.int 1))) (eCons (eV 1) eNil)))) eNil)) [some (.tup [.int n, .tup (E.map edgeD)]), none] μ (rgD 0 n) = some ((List.range n).map fun s => rowT (rowOf n E s)) := by
    refine lcGo_map (fun (i : Nat) => D.int (0 + (i : Int))) (fun s => rowT (rowOf n E s)) _ fun i hi => ⟨[some (.tup [.int n, .tup (E.map edgeD)]), some (.int (0 + (i : Int)))], rfl, rfl, ?_⟩
    rw [List.mem_range] at hi
    have := row_eq (μ := μ) (W := .lst) (x := .tup (E.map edgeD)) rfl wf hi hn hl
    have this' : G_lengths_from μ [.int n, .tup (E.map edgeD), .int i] = some (.lst ((rowOf n E i).map oD)) := this
    rw [Int.zero_add]
    simp only [eFn, eN, e2, eC, eCons, eNil, eV, slot, Option.bind_some, List.append_nil, List.length_cons, List.length_nil, if_true, gIx, items, atI0, atI1, this', gTuple, rowT]
  have h4 : ((n : Nat) : Int) ≤ 100000 := by omega
  have h5 : (-100000 : Int) ≤ ((n : Nat) : Int) := by omega
  have h6 : n ≤ 100000 := by omega
  simp [G_lengths_of, gOf, startD, N_lengths_of, ev_lengths_of, zRet, eN, eCons, eNil, eLc, ipRg1, eV, eC, e2, gIx, items, atI0, slot, unsetAll, setS, h4, h5, rg_len, h6, roadsD, key, gTuple, tabT, tab_map]
theorem lengths_eq {n : Nat} {E : List Edge} (h : Map n E) : G_lengths μ [roadsD n E] = some (tabT (tab n E)) := by
  have := lengths_of_eq (μ := μ) h.wf (Nat.le_trans h.n2 (by decide)) (Nat.le_trans h.m (by decide))
  simp [G_lengths, gOf, startD, N_lengths, ev_lengths, zSeq, zDrop, zRet, eFn, eN, eCons, eNil, eV, slot, check_map_roads h, this]
end
end K60
end

section
set_option maxRecDepth 100000
/-! S8: tables of changed maps. -/
namespace K60
open PySem PySem.Spec PyProof.Rows L2 DL Wl

theorem pres_app (xs ys : List Ty) : pres (xs ++ ys) = pres xs ++ pres ys := List.filterMap_append
theorem pres_one (a b : Nat) (l : Int) (r : List Ty) : pres ((a, b, some l) :: r) = (a, b, l) :: pres r := rfl
theorem pres_no (a b : Nat) (r : List Ty) : pres ((a, b, none) :: r) = pres r := rfl
section
variable {ts : List Ty} {i a b : Nat} {o : Option Int} {l : Int}
theorem set_same (h : ts[i]? = some (a, b, o)) : ts.set i (a, b, o) = ts := by
  obtain ⟨hi, he⟩ := List.getElem?_eq_some_iff.mp h
  rw [← he]
  exact List.set_getElem_self hi
theorem pres_set (h : i < ts.length) (e : Edge) : e ∈ pres (ts.set i (a, b, some l)) ↔ e ∈ (a, b, l) :: pres (ts.set i (a, b, none)) := by
  rw [List.set_eq_take_append_cons_drop, if_pos h, List.set_eq_take_append_cons_drop, if_pos h, pres_app, pres_app, pres_one, pres_no]
  simp only [List.mem_append, List.mem_cons]
  constructor
  · rintro (h | h | h)
    · exact .inr (.inl h)
    · exact .inl h
    · exact .inr (.inr h)
  · rintro (h | h | h)
    · exact .inr (.inl h)
    · exact .inl h
    · exact .inr (.inr h)
theorem pres_at (h : ts[i]? = some (a, b, some l)) (e : Edge) : e ∈ pres ts ↔ e ∈ (a, b, l) :: pres (ts.set i (a, b, none)) := by
  have := pres_set (a := a) (b := b) (l := l) (List.getElem?_eq_some_iff.mp h).1 e
  rw [set_same h] at this
  exact this
theorem wf_sub {n : Nat} {E E' : List Edge} (wf : Wf n E) (h : ∀ e, e ∈ E' → e ∈ E) : Wf n E' := fun u v l he => wf u v l (h _ he)
theorem wf_out {n : Nat} (h : ts[i]? = some (a, b, o)) (wf : Wf n (pres ts)) : Wf n (pres (ts.set i (a, b, none))) := by
  cases o with
  | none => rw [set_same h]; exact wf
  | some l => exact wf_sub wf fun e he => (pres_at h e).mpr (List.mem_cons_of_mem _ he)
theorem wf_in {n : Nat} (hi : i < ts.length) (wf : Wf n (pres (ts.set i (a, b, none)))) (ha : a < n) (hb : b < n) (h0 : 0 ≤ l) : Wf n (pres (ts.set i (a, b, some l))) := fun u v m he => by
  rcases List.mem_cons.mp ((pres_set hi _).mp he) with e | he
  · cases e
    exact ⟨ha, hb, h0⟩
  · exact wf u v m he
theorem pres_len (ts : List Ty) : (pres ts).length ≤ ts.length := List.length_filterMap_le _ _
theorem dist_iff {n : Nat} {E E' : List Edge} (wf : Wf n E) (h : ∀ e, e ∈ E ↔ e ∈ E') (s t : Nat) : dist E' s t = dist E s t := dist_eq ((isD_dist wf s t).congr h)
/-- a tie that becomes shorter -/
theorem tab_short {n : Nat} {o : Option Int} (h : ts[i]? = some (a, b, o)) (wf : Wf n (pres ts)) (ha : a < n) (hb : b < n) (h0 : 0 ≤ l) (hlt : ltO (some l) o = true) : tab n ((a, b, l) :: pres ts) = tab n (pres (ts.set i (a, b, some l))) := by
  have hi := (List.getElem?_eq_some_iff.mp h).1
  have wr := wf_out h wf
  refine tab_congr fun s t => ?_
  have wc := Wf.cons wr ha hb h0
  have e1 : dist (pres (ts.set i (a, b, some l))) s t = dist ((a, b, l) :: pres (ts.set i (a, b, none))) s t := dist_iff wc (fun e => (pres_set hi e).symm) s t
  rw [e1]
  cases o with
  | none => rw [set_same h]
  | some m =>
    have hlm : l < m := of_decide_eq_true hlt
    have d := (isD_dist wc s t).beside (m := m) (by omega)
    refine dist_eq (d.congr fun e => ?_)
    simp only [List.mem_cons, pres_at h]
/-- a tie that becomes longer: a row that stays -/
theorem row_long {n : Nat} {s : Nat} {o o' : Option Int} (h : ts[i]? = some (a, b, o)) (wf : Wf n (pres ts)) (hs : s < n) (hlt : ltO o' o = false)
    (hk : addO (dist (pres ts) s a) o = none ∨ ltO (dist (pres ts) s b) (addO (dist (pres ts) s a) o) = true) : rowOf n (pres ts) s = rowOf n (pres (ts.set i (a, b, o'))) s := by
  have hi := (List.getElem?_eq_some_iff.mp h).1
  have wr := wf_out h wf
  cases o with
  | none =>
    cases o' with
    | some _ => cases hlt
    | none => rw [set_same h]
  | some l =>
    have hl : a < n ∧ b < n ∧ 0 ≤ l := wf a b l ((pres_at h _).mpr List.mem_cons_self)
    have wc := Wf.cons wr hl.1 hl.2.1 hl.2.2
    have dd : ∀ t, dist (pres ts) s t = dist ((a, b, l) :: pres (ts.set i (a, b, none))) s t := fun t => (dist_iff wf (fun e => pres_at h e) s t).symm
    have hk' : dist ((a, b, l) :: pres (ts.set i (a, b, none))) s a = none ∨ ltO (dist ((a, b, l) :: pres (ts.set i (a, b, none))) s b) (addO (dist ((a, b, l) :: pres (ts.set i (a, b, none))) s a) (some l)) = true := by
      rw [← dd a, ← dd b]
      rcases hk with hk | hk
      · left
        cases hq : dist (pres ts) s a with
        | none => rfl
        | some d => rw [hq] at hk; cases hk
      · exact .inr hk
    unfold Wl.rowOf
    refine List.map_congr_left fun t _ => ?_
    rw [dd t]
    have d0 := isD_dist wc s t
    have r0 := keep_row hl.2.2 wr (isD_dist wc s a) (isD_dist wc s b) hk' d0
    symm
    cases o' with
    | none => exact dist_eq r0
    | some m =>
      have hlm : ¬ (m < l) := of_decide_eq_false hlt
      refine dist_eq (IsD.congr (fun e => (pres_set hi e).symm) ?_)
      exact IsD.between (fun e he => List.mem_cons_of_mem _ he) (fun w hw => longer_walk (by omega) hw) d0 r0
end
section
variable {μ : Mu} {n : Nat} {E : List Edge}
theorem ix_tab {s : Nat} (h : s < n) : gIx μ (tabT (tab n E)) (.int (s : Nat)) = some (rowT (rowOf n E s)) := ix_tup (by rw [List.getElem?_map, tab_get h]; rfl)
theorem ix_row {s t : Nat} (h : t < n) : gIx μ (rowT (rowOf n E s)) (.int (t : Nat)) = some (oD (dist E s t)) := ix_tup (oget h)
theorem zip_maps {α β γ δ : Type} (f : β → γ → δ) (g : α → β) (h : α → γ) : ∀ l : List α, (l.map g).zipWith f (l.map h) = l.map fun x => f (g x) (h x)
  | [] => rfl
  | x :: r => by simp only [List.map_cons, List.zipWith_cons_cons, zip_maps f g h r]
theorem zp_rows (s t : Nat) (E' : List Edge) : zpD ((rowOf n E s).map oD) ((rowOf n E' t).map oD) = (List.range n).map fun v => .tup [oD (dist E s v), oD (dist E' t v)] := by
  unfold zpD Wl.rowOf
  rw [List.map_map, List.map_map]
  exact zip_maps _ _ _ _
def S_shortened : DC := fun ds μ k => ∃ n E a b l, ds = [tabT (tab n E), .int (a : Nat), .int (b : Nat), .int l] ∧ Wf n E ∧ a < n ∧ b < n ∧ 0 ≤ l ∧ n ≤ 1000 ∧ k (tabT (tab n ((a, b, l) :: E))) μ
theorem tab_take {n : Nat} {E : List Edge} {i : Nat} (h : i < n) : ((tab n E).map rowT).take (i + 1) = ((tab n E).map rowT).take i ++ [rowT (rowOf n E i)] := by
  have hl : i < ((tab n E).map rowT).length := by rw [List.length_map, tab_len]; exact h
  rw [List.take_succ_eq_append_getElem hl]
  congr 2
  have := tab_get (E := E) h
  have h2 : ((tab n E).map rowT)[i]? = some (rowT (rowOf n E i)) := by rw [List.getElem?_map, this]; rfl
  exact (List.getElem?_eq_some_iff.mp h2).2
theorem tab_row {n : Nat} {E : List Edge} {i : Nat} {y : D} (h : ((tab n E).map rowT)[i]? = some y) : i < n ∧ y = rowT (rowOf n E i) := by
  have hl : i < n := by
    have := (List.getElem?_eq_some_iff.mp h).1
    rw [List.length_map, tab_len] at this
    exact this
  rw [List.getElem?_map, tab_get hl] at h
  exact ⟨hl, (Option.some.inj h).symm⟩
theorem sem_shortened (ds : List D) (μ : Mu) (kont : DK) (h : S_shortened ds μ kont) : bd_shortened G_least G_plus { nx := fun _ μ' => GhV kont .non μ', rt := GhV kont } (startD N_shortened ds) μ := by
  obtain ⟨n, E, a, b, l, rfl, wf, ha, hb, h0, hn, hk⟩ := h
  unfold bd_shortened
  refine sSeq_i ⟨[], rfl, Nat.zero_le _, fun q hq => sSeq_i ?_⟩
  refine ⟨tabT (tab n E), rfl, (tab n E).map rowT, rfl, ?_⟩
  refine forL_ix (fun i ρ μ' => ∃ r5 r6 r7 r8, ρ = [some (tabT (tab n E)), some (.int a), some (.int b), some (.int l), some (.loc q), r5, r6, r7, r8] ∧ Ext μ μ' ∧ μ' q = some (.lst (((tab n ((a, b, l) :: E)).map rowT).take i)))
    (fun _ _ _ _ => trivial) (fun i y ρ μ' N' hy hQ hN => ?_) (fun ρ μ' hQ => ?_) ⟨none, none, none, none, rfl, Ext.new (Ext.refl _) hq, by rw [updM_same, List.take_zero]⟩
  · obtain ⟨r5, r6, r7, r8, rfl, he, hm⟩ := hQ
    obtain ⟨hin, rfl⟩ := tab_row hy
    have pl : G_plus μ' [oD (dist E i a), .int l] = some (oD (addO (dist E i a) (some l))) := plus_o (b := some l)
    refine sGh_i (sSeq_i ⟨oD (addO (dist E i a) (some l)), ?_, ?_⟩)
    · simp only [eFn, eN, e2, eCons, eNil, eV, slot, Option.bind_some, setS, ix_row ha, List.append_nil, List.length_cons, List.length_nil, if_true, pl]
    · have key : lcGo (egTup 2 (egCons (egName 7) (egCons (egName 8) egNil))) eYes (eFn G_least [] 2 (eCons (eV 7) (eCons (eFn G_plus [] 2 (eCons (eV 6) (eCons (eV 8) eNil))) eNil))) [some (tabT (tab n E)), some (.int a), some (.int b), some (.int l), some (.loc q), some (rowT (rowOf n E i)), some (oD (addO (dist E i a) (some l))), none, none] μ' ((List.range n).map fun v => .tup [oD (dist E i v), oD (dist E b v)]) = some ((rowOf n ((a, b, l) :: E) i).map oD) := by
        have e3 : (rowOf n ((a, b, l) :: E) i).map oD = (List.range n).map fun v => oD (dist ((a, b, l) :: E) i v) := by
          unfold Wl.rowOf
          rw [List.map_map]
          rfl
        rw [e3]
        refine lcGo_map (fun v => .tup [oD (dist E i v), oD (dist E b v)]) _ _ fun v hv => ⟨_, rfl, rfl, ?_⟩
        rw [dist_add wf h0]
        simp only [eFn, eN, eCons, eNil, eV, slot, setS, Option.bind_some, List.append_nil, List.length_cons, List.length_nil, if_true, plus_o, least_o]
      have hix : gIx μ' (tabT (tab n E)) (.int (b : Nat)) = some (.tup ((rowOf n E b).map oD)) := ix_tab hb
      have hzl : (zpD ((rowOf n E i).map oD) ((rowOf n E b).map oD)).length ≤ 100000 := by
        rw [zp_rows, List.length_map, List.length_range]
        omega
      refine ⟨.loc q, rfl, ⟨_, itemsL_loc hm⟩, [rowT (rowOf n ((a, b, l) :: E) i)], ?_, lstAt_i hm ⟨?_, ?_⟩⟩
      · rw [← zp_rows] at key
        unfold rowT at key
        simp only [eCons, eNil, eN, eLc, ipZp, e2, eV, slot, setS, Option.bind_some, hix, unsetAll, rowT, hzl, if_true, key, gTuple, items]
      · rw [List.length_take, List.length_map, tab_len]
        omega
      · refine GhS.done (hN _ _ ⟨_, _, _, _, rfl, Ext.new he hq, ?_⟩)
        rw [updM_same, tab_take hin]
  · obtain ⟨r5, r6, r7, r8, rfl, he, hm⟩ := hQ
    rw [List.length_map, tab_len, List.take_of_length_le (by rw [List.length_map, tab_len]; exact Nat.le_refl _)] at hm
    refine ⟨tabT (tab n ((a, b, l) :: E)), ?_, GhV.drop μ he (GhV.done hk)⟩
    simp only [eN, eCons, eNil, eV, slot, Option.bind_some, gTuple, items_loc hm, tabT]
def S_lengthened : DC := fun ds μ k => ∃ n ts i a b o o', ds = [.int (n : Nat), tabT (tab n (pres ts)), .lst ((ts.set i (a, b, o')).map tieD), .int (a : Nat), .int (b : Nat), oD o] ∧ ts[i]? = some (a, b, o) ∧ Wf n (pres ts) ∧ Wf n (pres (ts.set i (a, b, o'))) ∧ a < n ∧ b < n ∧ ltO o' o = false ∧ n ≤ 1000 ∧ ts.length ≤ 1000 ∧
  k (tabT (tab n (pres (ts.set i (a, b, o'))))) μ
theorem sem_lengthened (ds : List D) (μ : Mu) (kont : DK) (h : S_lengthened ds μ kont) : bd_lengthened G_is_less G_lengths_from G_plus G_present { nx := fun _ μ' => GhV kont .non μ', rt := GhV kont } (startD N_lengthened ds) μ := by
  obtain ⟨n, ts, i, a, b, o, o', rfl, hi, wf, wf', ha, hb, hlt, hn, hl, hk⟩ := h
  unfold bd_lengthened
  refine sSeq_i ⟨[], rfl, Nat.zero_le _, fun q hq => sSeq_i ?_⟩
  refine ⟨[tabT (tab n (pres ts))], rfl, (tab n (pres ts)).map rowT, rfl, ?_⟩
  refine forL_ix (fun j ρ μ' => ∃ r7 r8 r9, ρ = [some (.int n), some (tabT (tab n (pres ts))), some (.lst ((ts.set i (a, b, o')).map tieD)), some (.int a), some (.int b), some (oD o), some (.loc q), r7, r8, r9] ∧ Ext μ μ' ∧ μ' q = some (.lst (((tab n (pres (ts.set i (a, b, o')))).map rowT).take j)))
    (fun _ _ _ _ => trivial) (fun j y ρ μ' N' hy hQ hN => ?_) (fun ρ μ' hQ => ?_) ⟨none, none, none, rfl, Ext.new (Ext.refl _) hq, by rw [updM_same, List.take_zero]⟩
  · obtain ⟨r7, r8, r9, rfl, he, hm⟩ := hQ
    obtain ⟨z, hz, rfl⟩ := enD_get hy
    obtain ⟨hin, rfl⟩ := tab_row hz
    refine ⟨[.int j, rowT (rowOf n (pres ts) j)], rfl, rfl, rfl, ?_⟩
    refine sGh_i (sSeq_i ⟨oD (addO (dist (pres ts) j a) o), ?_, ?_⟩)
    · simp only [eFn, eN, e2, eCons, eNil, eV, slot, Option.bind_some, setS, ix_row ha, List.append_nil, List.length_cons, List.length_nil, if_true, plus_o]
    · refine ⟨.loc q, rfl, ⟨_, itemsL_loc hm⟩, [rowT (rowOf n (pres (ts.set i (a, b, o'))) j)], ?_, lstAt_i hm ⟨?_, ?_⟩⟩
      · have hpl : (ts.set i (a, b, o')).length ≤ 1000 := by rw [List.length_set]; exact hl
        have hp := present_ties (μ := μ') (ts := ts.set i (a, b, o')) (by omega)
        have hf : G_lengths_from μ' [.int n, .lst ((pres (ts.set i (a, b, o'))).map edgeD), .int j] = some (.lst ((rowOf n (pres (ts.set i (a, b, o'))) j).map oD)) := row_eq (W := .lst) rfl wf' hin hn (Nat.le_trans (pres_len _) hpl)
        have t1 : (eOrT (eTst (e2 (gIs false) (eV 9) (eC .non))) (eTst (eFn G_is_less [] 2 (eCons (e2 gIx (eV 8) (eV 4)) (eCons (eV 9) eNil))))) [some (.int n), some (tabT (tab n (pres ts))), some (.lst ((ts.set i (a, b, o')).map tieD)), some (.int a), some (.int b), some (oD o), some (.loc q), some (.int j), some (rowT (rowOf n (pres ts) j)), some (oD (addO (dist (pres ts) j a) o))] μ' = some ((addO (dist (pres ts) j a) o).isNone || ltO (dist (pres ts) j b) (addO (dist (pres ts) j a) o)) := by
          simp only [eOrT, eTst, eFn, eN, e2, eCons, eNil, eV, eC, slot, Option.bind_some, gIs, oD_isN, ix_row hb, List.append_nil, List.length_cons, List.length_nil, if_true, is_less_o]
          cases (addO (dist (pres ts) j a) o) <;> rfl
        cases hc : ((addO (dist (pres ts) j a) o).isNone || ltO (dist (pres ts) j b) (addO (dist (pres ts) j a) o)) with
        | true =>
          rw [hc] at t1
          have hk' : addO (dist (pres ts) j a) o = none ∨ ltO (dist (pres ts) j b) (addO (dist (pres ts) j a) o) = true := by
            rw [Bool.or_eq_true] at hc
            rcases hc with hc | hc
            · exact .inl (Option.isNone_iff_eq_none.mp hc)
            · exact .inr hc
          rw [← row_long hi wf hin hlt hk']
          simp only [eCons, eNil, eIf, setS, t1, Option.bind_some, if_true, eV, slot]
        | false =>
          rw [hc] at t1
          simp only [eCons, eNil, eIf, setS, t1, Option.bind_some, if_false, Bool.false_eq_true, eN, eFn, eV, slot, List.append_nil, List.length_cons, List.length_nil, if_true, hp, hf, gTuple, items]
          rfl
      · rw [List.length_take, List.length_map, tab_len]
        omega
      · refine GhS.done (hN _ _ ⟨_, _, _, rfl, Ext.new he hq, ?_⟩)
        rw [updM_same, tab_take hin]
  · obtain ⟨r7, r8, r9, rfl, he, hm⟩ := hQ
    rw [enD_len, List.length_map, tab_len, List.take_of_length_le (by rw [List.length_map, tab_len]; exact Nat.le_refl _)] at hm
    refine ⟨tabT (tab n (pres (ts.set i (a, b, o')))), ?_, GhV.drop μ he (GhV.done hk)⟩
    simp only [eN, eCons, eNil, eV, slot, Option.bind_some, gTuple, items_loc hm, tabT]
end
end K60
end

section
set_option maxRecDepth 100000
/-! S9: the watch. -/
namespace DL
open PySem PySem.Spec PyProof.Rows L2
theorem updM_twice {μ : Mu} {p : Addr} {a b : MO} : updM (updM μ p a) p b = updM μ p b := by
  funext x
  unfold updM
  split <;> rfl
theorem updM_swap {μ : Mu} {p q : Addr} {a b : MO} (h : p ≠ q) : updM (updM μ p a) q b = updM (updM μ q b) p a := by
  funext x
  unfold updM
  by_cases hp : x = p
  · subst hp
    rw [if_pos rfl, if_neg h, if_pos rfl]
  · rw [if_neg hp, if_neg hp]
theorem lcL_map {β : Type} {g : DG} {ev : EvE} {ρ' : Ro} {μ : Mu} {k : List D → Mu → Prop} (f : β → D) (ρ1 : β → Ro) (h : β → D) : ∀ (xs : List β) (acc : List D), (∀ x ∈ xs, (∀ K : Ro → Mu → Prop, K (ρ1 x) μ → g (f x) ρ' μ K) ∧ ev (ρ1 x) μ = some (h x)) → acc.length + xs.length ≤ 100000 →
    k (acc ++ xs.map h) μ → lcL g dYes (dP ev) (fun _ => True) ρ' (xs.map f) acc μ k
  | [], acc, _, _, hk => ⟨trivial, by rwa [List.map_nil, List.append_nil] at hk⟩
  | x :: r, acc, hx, hl, hk => by
    rw [List.length_cons] at hl
    obtain ⟨h1, h2⟩ := hx x List.mem_cons_self
    refine ⟨trivial, by omega, h1 _ ?_⟩
    show (if (true : Bool) = true then dP ev (ρ1 x) μ (fun y μ3 => lcL g dYes (dP ev) (fun _ => True) ρ' (r.map f) (acc ++ [y]) μ3 k) else lcL g dYes (dP ev) (fun _ => True) ρ' (r.map f) acc μ k)
    rw [if_pos rfl]
    refine ⟨h x, h2, lcL_map f ρ1 h r _ (fun y hy => hx y (List.mem_cons_of_mem _ hy)) (by rw [List.length_append, List.length_singleton]; omega) ?_⟩
    rw [List.append_assoc]
    exact hk
theorem lc2_map {α β : Type} {g g1 : DG} {it1 : DI} {ev : EvE} {vs vs1 : List Nat} {ρ : Ro} {μ : Mu} {k : List D → Mu → Prop} (f : α → D) (ρ1 : α → Ro) (ys : α → List β) (fi : α → β → D) (ρ2 : α → β → Ro) (h : α → β → D) :
    ∀ (xs : List α) (acc : List D), (∀ x ∈ xs, (∀ K : Ro → Mu → Prop, K (ρ1 x) μ → g (f x) (unsetAll ρ vs) μ K) ∧ (∀ K : List D → (Mu → Prop) → Mu → Prop, K ((ys x).map (fi x)) (fun _ => True) μ → it1 (ρ1 x) μ K) ∧
      ∀ y ∈ ys x, (∀ K : Ro → Mu → Prop, K (ρ2 x y) μ → g1 (fi x y) (unsetAll (ρ1 x) vs1) μ K) ∧ ev (ρ2 x y) μ = some (h x y)) → acc.length + (xs.map fun x => (ys x).map (h x)).flatten.length < 100000 →
    k (acc ++ (xs.map fun x => (ys x).map (h x)).flatten) μ → dLc2.go g dYes it1 g1 dYes (dP ev) vs vs1 ρ k (fun _ => True) (xs.map f) acc μ
  | [], acc, _, _, hk => ⟨trivial, by rwa [List.map_nil, List.flatten_nil, List.append_nil] at hk⟩
  | x :: r, acc, hx, hl, hk => by
    rw [List.map_cons, List.flatten_cons] at hl hk
    rw [List.length_append, List.length_map] at hl
    obtain ⟨h1, h2, h3⟩ := hx x List.mem_cons_self
    refine ⟨trivial, by omega, h1 _ ?_⟩
    show (if (true : Bool) = true then it1 (ρ1 x) μ (fun ds1 ok1 μ3 => lcL g1 dYes (dP ev) ok1 (unsetAll (ρ1 x) vs1) ds1 acc μ3 (fun acc' μ' => dLc2.go g dYes it1 g1 dYes (dP ev) vs vs1 ρ k (fun _ => True) (r.map f) acc' μ')) else dLc2.go g dYes it1 g1 dYes (dP ev) vs vs1 ρ k (fun _ => True) (r.map f) acc μ)
    rw [if_pos rfl]
    refine h2 _ (lcL_map (fi x) (ρ2 x) (h x) (ys x) acc h3 (by omega) ?_)
    refine lc2_map f ρ1 ys fi ρ2 h r _ (fun y hy => hx y (List.mem_cons_of_mem _ hy)) (by rw [List.length_append, List.length_map]; omega) ?_
    rw [List.append_assoc]
    exact hk
end DL
namespace K60
open PySem PySem.Spec PyProof.Rows L2 DL Wl
/-- a change that is held: the tie, the length, the pairs, the ties ahead of it -/
structure Chg where
  i : Nat
  o : Option Int
  c : Int
  ts : List Ty
/-- a watch -/
structure WS where
  n : Nat
  hd : List D
  ts : List Ty
  dn : List Chg
def tsD (ts : List Ty) : D := .lst (ts.map tieD)
noncomputable def tbD (n : Nat) (ts : List Ty) : D := tabT (tab n (pres ts))
noncomputable def chgD (n : Nat) (c : Chg) : D := .tup [.int c.i, oD c.o, .int c.c, .tup [tsD c.ts, tbD n c.ts]]
noncomputable def mW (C q : Addr) (W : WS) : MO := .ins C [("_head", .lst W.hd), ("_many", .int W.n), ("_ties", tsD W.ts), ("_table", tbD W.n W.ts), ("_done", .loc q)]
noncomputable def dW (W : WS) : MO := .lst (W.dn.map (chgD W.n))
/-- ties as they should be -/
def Tw (n : Nat) (ts : List Ty) : Prop := ∀ t ∈ ts, t.1 < n ∧ t.2.1 < n ∧ t.1 ≠ t.2.1 ∧ ∀ l, t.2.2 = some l → 0 ≤ l ∧ l < 10 ^ 100
structure Wat (C : Addr) (μ : Mu) (p q : Addr) (W : WS) : Prop where
  mp : μ p = some (mW C q W)
  mq : μ q = some (dW W)
  pq : p ≠ q
  n1 : 1 ≤ W.n
  n2 : W.n ≤ 20
  tl : W.ts.length ≤ 120
  tw : Tw W.n W.ts
  hl : W.hd.length ≤ 1000
  dl : W.dn.length ≤ 1000
noncomputable def putW (C : Addr) (μ : Mu) (p q : Addr) (W : WS) : Mu := updM (updM μ p (mW C q W)) q (dW W)
def WS.set (W : WS) (i : Nat) (a b : Nat) (o : Option Int) (c : Int) : WS := { W with ts := W.ts.set i (a, b, o), dn := W.dn ++ [⟨i, o, c, W.ts⟩] }
theorem Tw.wf {n : Nat} {ts : List Ty} (h : Tw n ts) : Wf n (pres ts) := fun u v l he => by
  unfold pres at he
  obtain ⟨t, ht, h2⟩ := List.mem_filterMap.mp he
  obtain ⟨a, b, o⟩ := t
  cases o with
  | none => cases h2
  | some m =>
    cases h2
    obtain ⟨h3, h4, _, h5⟩ := h _ ht
    exact ⟨h3, h4, (h5 l rfl).1⟩
theorem Tw.set {n : Nat} {ts : List Ty} {i a b : Nat} {o o' : Option Int} (h : Tw n ts) (hi : ts[i]? = some (a, b, o)) (ho : ∀ l, o' = some l → 0 ≤ l ∧ l < 10 ^ 100) : Tw n (ts.set i (a, b, o')) := fun t ht => by
  rcases List.mem_or_eq_of_mem_set ht with h1 | h1
  · exact h t h1
  · subst h1
    obtain ⟨h1, h2, h3, _⟩ := h _ (List.mem_of_getElem? hi)
    exact ⟨h1, h2, h3, ho⟩
section
variable {C : Addr} {μ : Mu} {p q : Addr} {W : WS}
theorem Wat.put (h : Wat C μ p q W) {W' : WS} (n1 : 1 ≤ W'.n) (n2 : W'.n ≤ 20) (tl : W'.ts.length ≤ 120) (tw : Tw W'.n W'.ts) (hl : W'.hd.length ≤ 1000) (dl : W'.dn.length ≤ 1000) : Wat C (putW C μ p q W') p q W' :=
  ⟨by unfold putW; rw [updM_ne h.pq, updM_same], by unfold putW; rw [updM_same], h.pq, n1, n2, tl, tw, hl, dl⟩
theorem lk_head {a b c d e : D} : List.lookup ("_head" : Str) [(("_head" : Str), a), ("_many", b), ("_ties", c), ("_table", d), ("_done", e)] = some a := rfl
theorem lk_many {a b c d e : D} : List.lookup ("_many" : Str) [(("_head" : Str), a), ("_many", b), ("_ties", c), ("_table", d), ("_done", e)] = some b := rfl
theorem lk_ties {a b c d e : D} : List.lookup ("_ties" : Str) [(("_head" : Str), a), ("_many", b), ("_ties", c), ("_table", d), ("_done", e)] = some c := rfl
theorem lk_table {a b c d e : D} : List.lookup ("_table" : Str) [(("_head" : Str), a), ("_many", b), ("_ties", c), ("_table", d), ("_done", e)] = some d := rfl
theorem lk_done {a b c d e : D} : List.lookup ("_done" : Str) [(("_head" : Str), a), ("_many", b), ("_ties", c), ("_table", d), ("_done", e)] = some e := rfl
theorem put_ties {a b c d e x : D} : putFD "_ties" x [(("_head" : Str), a), ("_many", b), ("_ties", c), ("_table", d), ("_done", e)] = [(("_head" : Str), a), ("_many", b), ("_ties", x), ("_table", d), ("_done", e)] := by
  simp only [putFD]
  rfl
theorem put_table {a b c d e x : D} : putFD "_table" x [(("_head" : Str), a), ("_many", b), ("_ties", c), ("_table", d), ("_done", e)] = [(("_head" : Str), a), ("_many", b), ("_ties", c), ("_table", x), ("_done", e)] := by
  simp only [putFD]
  rfl
theorem fld_of {f : Str} {fs : List (Str × D)} {d : D} (h : μ p = some (.ins C fs)) (hl : fs.lookup f = some d) : gFld C f μ (.loc p) = some d := by
  simp only [gFld, h, if_true, hl]
theorem Wat.head (h : Wat C μ p q W) : gFld C "_head" μ (.loc p) = some (.lst W.hd) := fld_of h.mp lk_head
theorem Wat.many (h : Wat C μ p q W) : gFld C "_many" μ (.loc p) = some (.int W.n) := fld_of h.mp lk_many
theorem Wat.ties (h : Wat C μ p q W) : gFld C "_ties" μ (.loc p) = some (tsD W.ts) := fld_of h.mp lk_ties
theorem Wat.table (h : Wat C μ p q W) : gFld C "_table" μ (.loc p) = some (tbD W.n W.ts) := fld_of h.mp lk_table
theorem Wat.done (h : Wat C μ p q W) : gFld C "_done" μ (.loc p) = some (.loc q) := fld_of h.mp lk_done
theorem Wat.ext (h : Wat C μ p q W) {μ' : Mu} (e : Ext μ μ') : Wat C μ' p q W := ⟨e _ _ h.mp, e _ _ h.mq, h.pq, h.n1, h.n2, h.tl, h.tw, h.hl, h.dl⟩
def G_Watch__check_tie (C_Watch : Addr) : Mu → List D → Option D := gOf N_Watch__check_tie (ev_Watch__check_tie G_is_index C_Watch)
def G_Watch_lengths (C_Watch : Addr) : Mu → List D → Option D := gOf N_Watch_lengths (ev_Watch_lengths C_Watch)
def G_Watch_map (C_Watch : Addr) : Mu → List D → Option D := gOf N_Watch_map (ev_Watch_map G_map_of G_present C_Watch)
def G_Watch_changes (C_Watch : Addr) : Mu → List D → Option D := gOf N_Watch_changes (ev_Watch_changes C_Watch)
theorem check_tie_eq (h : Wat C μ p q W) {i : Nat} (hi : i < W.ts.length) : G_Watch__check_tie C μ [.loc p, .int i] = some .non := by
  have hi2 : (i : Int) < ((W.ts.length : Nat) : Int) := by omega
  have h3 : G_is_index μ [.int (i : Nat), .int (W.ts.length : Nat)] = some (.bl true) := by
    rw [is_index_int]
    simp [hi]
  simp only [G_Watch__check_tie, gOf, startD, N_Watch__check_tie, ev_Watch__check_tie, zIf, zNext, zNever, eNotT, eTst, eFn, eN, eCons, eNil, eV, e1, slot, List.map, List.cons_append, List.nil_append, List.length_cons, List.length_nil, Option.bind_some, h.ties, gLen, tsD, items, List.length_map, List.append_nil, if_true, h3, Bool.not_true, List.replicate]
theorem watch_lengths_eq (h : Wat C μ p q W) : G_Watch_lengths C μ [.loc p] = some (tbD W.n W.ts) := by
  simp only [G_Watch_lengths, gOf, startD, N_Watch_lengths, ev_Watch_lengths, zRet, eV, e1, slot, List.map, List.cons_append, Option.bind_some, h.table]
theorem watch_map_eq (h : Wat C μ p q W) : G_Watch_map C μ [.loc p] = some (roadsD W.n (sortE (pres W.ts))) := by
  have hp := present_ties (μ := μ) (ts := W.ts) (Nat.le_trans h.tl (by decide))
  have hm := map_of_edges (μ := μ) (x := .lst ((pres W.ts).map edgeD)) (n := (W.n : Int)) (E := pres W.ts) rfl (Nat.le_trans (pres_len _) (Nat.le_trans h.tl (by decide)))
  simp only [G_Watch_map, gOf, startD, N_Watch_map, ev_Watch_map, zRet, eFn, eN, eCons, eNil, eV, e1, slot, List.map, List.cons_append, List.nil_append, Option.bind_some, h.many, h.ties, tsD, List.append_nil, List.length_cons, List.length_nil, if_true, hp, hm, roadsD]
theorem watch_changes_nil (h : Wat C μ p q W) (h0 : W.dn = []) : G_Watch_changes C μ [.loc p] = some (.lst []) := by
  have hq : μ q = some (.lst []) := by
    rw [h.mq]
    unfold dW
    rw [h0]
    rfl
  simp only [G_Watch_changes, gOf, startD, N_Watch_changes, ev_Watch_changes, zRet, eLc, ipSeq, eV, e1, slot, List.map, List.cons_append, List.nil_append, Option.bind_some, h.done, seqI, items, hq, List.length_nil, Nat.zero_le, if_true, lcGo]
end
end K60
end

section
set_option maxRecDepth 100000
/-! S10: the watch is changed. -/
namespace K60
open PySem PySem.Spec PyProof.Rows L2 DL Wl
section
variable {μ : Mu}
theorem sum_bools (bs : List Bool) (hl : bs.length ≤ 100000) : ∃ c, gSumA μ [.lst (bs.map .bl)] = some (.int c) := by
  cases bs with
  | nil => exact ⟨0, rfl⟩
  | cons b r =>
    refine ⟨cntT (b :: r), ?_⟩
    have h1 : intsOf ((b :: r).map D.bl) = none := rfl
    simp only [gSumA, itemsL, h1, boolsOf_map, hl, if_true]
def neO (a b : Option Int) : Bool := match a, b with
  | none, none => false
  | some x, some y => decide (x = y) != true
  | _, _ => true
theorem ne_o (a b : Option Int) : gEq true μ (oD a) (oD b) = some (.bl (neO a b)) := by
  cases a <;> cases b <;> rfl
theorem flat_const {α β : Type} (k : Nat) (f : α → List β) : ∀ xs : List α, (∀ x ∈ xs, (f x).length = k) → (xs.map f).flatten.length = xs.length * k
  | [], _ => by rw [List.map_nil, List.flatten_nil, List.length_nil, List.length_nil, Nat.zero_mul]
  | x :: r, h => by
    rw [List.map_cons, List.flatten_cons, List.length_append, h x List.mem_cons_self, flat_const k f r fun y hy => h y (List.mem_cons_of_mem _ hy), List.length_cons, Nat.succ_mul, Nat.add_comm]
theorem flat_bl {α : Type} (f : α → List Nat) (g : α → Nat → Bool) : ∀ xs : List α, (xs.map fun x => (f x).map fun y => D.bl (g x y)).flatten = ((xs.map fun x => (f x).map fun y => g x y).flatten).map D.bl
  | [] => rfl
  | x :: r => by
    rw [List.map_cons, List.flatten_cons, flat_bl f g r, List.map_cons, List.flatten_cons, List.map_append, List.map_map]
    rfl
/-- the changed pairs -/
theorem pairs_loop {n : Nat} {E E' : List Edge} {ρ0 : Ro} {k : List D → Mu → Prop} {r0 r1 r2 r3 r4 r5 r6 r7 r8 : Option D} (hn : n ≤ 20) (hr : ρ0 = [r0, r1, r2, r3, r4, r5, r6, r7, r8, none, none, none, none]) (hk : ∀ bs : List Bool, bs.length ≤ 100000 → k (bs.map .bl) μ) :
    dLc2.go (dgTup 2 (dgCons (dgName 9) (dgCons (dgName 10) dgNil))) dYes (iZp (dPA (eCons (eV 9) (eCons (eV 10) eNil)))) (dgTup 2 (dgCons (dgName 11) (dgCons (dgName 12) dgNil))) dYes (dP (e2 (gEq true) (eV 11) (eV 12))) [9, 10, 11, 12] [11, 12] ρ0 k (fun _ => True)
      ((List.range n).map fun s => .tup [rowT (Wl.rowOf n E s), rowT (Wl.rowOf n E' s)]) [] μ := by
  subst hr
  have hlen : (((List.range n).map fun s => (List.range n).map fun v => D.bl (neO (dist E s v) (dist E' s v))).flatten).length = n * n := by
    rw [flat_const n _ _ fun x _ => by rw [List.length_map, List.length_range], List.length_range]
  have hnn : n * n ≤ 400 := Nat.mul_le_mul hn hn
  refine lc2_map (fun s => .tup [rowT (Wl.rowOf n E s), rowT (Wl.rowOf n E' s)]) (fun s => [r0, r1, r2, r3, r4, r5, r6, r7, r8, some (rowT (Wl.rowOf n E s)), some (rowT (Wl.rowOf n E' s)), none, none]) (fun _ => List.range n) (fun s v => .tup [oD (dist E s v), oD (dist E' s v)])
    (fun s v => [r0, r1, r2, r3, r4, r5, r6, r7, r8, some (rowT (Wl.rowOf n E s)), some (rowT (Wl.rowOf n E' s)), some (oD (dist E s v)), some (oD (dist E' s v))]) (fun s v => .bl (neO (dist E s v) (dist E' s v))) _ _ (fun s _ => ⟨fun K hK => ?_, fun K hK => ?_, fun v _ => ⟨fun K hK => ?_, ?_⟩⟩) ?_ ?_
  · exact ⟨[rowT (Wl.rowOf n E s), rowT (Wl.rowOf n E' s)], rfl, rfl, rfl, hK⟩
  · refine ⟨[rowT (Wl.rowOf n E s), rowT (Wl.rowOf n E' s)], rfl, ?_⟩
    show K (zpD ((Wl.rowOf n E s).map oD) ((Wl.rowOf n E' s).map oD)) (fun _ => True) μ
    rw [zp_rows]
    exact hK
  · exact ⟨[oD (dist E s v), oD (dist E' s v)], rfl, rfl, rfl, hK⟩
  · simp only [e2, eV, slot, Option.bind_some, ne_o]
  · rw [hlen]
    simp only [List.length_nil]
    omega
  · rw [List.nil_append, flat_bl]
    refine hk _ ?_
    have := congrArg List.length (flat_bl (fun _ => List.range n) (fun s v => neO (dist E s v) (dist E' s v)) (List.range n))
    rw [hlen, List.length_map] at this
    omega
theorem zp_tabs (n : Nat) (E E' : List Edge) : zpD ((tab n E).map rowT) ((tab n E').map rowT) = (List.range n).map fun s => .tup [rowT (Wl.rowOf n E s), rowT (Wl.rowOf n E' s)] := by
  rw [tab_map, tab_map]
  unfold zpD
  exact zip_maps _ _ _ _
end
theorem short_le : (10 : Int) ^ 100 ≤ 10 ^ 1000 := by
  have : (10 : Nat) ^ 100 ≤ 10 ^ 1000 := Nat.pow_le_pow_right (by decide) (by decide)
  exact_mod_cast this
def S_set_length (C : Addr) : DC := fun ds μ k => ∃ p q W i a b o o', ds = [.loc p, .int (i : Nat), oD o'] ∧ Wat C μ p q W ∧ W.ts[i]? = some (a, b, o) ∧ (∀ l, o' = some l → 0 ≤ l ∧ l < 10 ^ 100) ∧ W.dn.length < 1000 ∧ ∀ c, k .non (putW C μ p q (W.set i a b o' c))
theorem chg_ok {μ : Mu} {o : Option Int} (h : ∀ l, o = some l → 0 ≤ l ∧ l < 10 ^ 100) {ρ : Ro} (h2 : slot ρ 2 = some (oD o)) : eAndT (eTst (e2 (gIs true) (eV 2) (eC .non))) (eNotT (eAndT (eTst (eFn G_is_count [] 1 (eCons (eV 2) eNil))) (eTst (eFn G_is_short [] 1 (eCons (eV 2) eNil))))) ρ μ = some false := by
  cases o with
  | none => simp only [eAndT, eTst, e2, eV, eC, h2, Option.bind_some, gIs, oD, isN, Bool.bne_true, Bool.not_true, Bool.false_eq_true, if_false]
  | some l =>
    obtain ⟨h3, h4⟩ := h l rfl
    have h5 : l < 10 ^ 1000 := Int.lt_of_lt_of_le h4 short_le
    simp only [eAndT, eNotT, eTst, eFn, eN, eCons, eNil, e2, eV, eC, h2, Option.bind_some, gIs, oD, isN, Bool.bne_true, Bool.not_false, if_true, List.append_nil, List.length_cons, List.length_nil, is_count_int, is_short_int, decide_eq_true h3, decide_eq_true h5, Bool.not_true]
theorem sem_set_length (C : Addr) (ds : List D) (μ : Mu) (kont : DK) (h : S_set_length C ds μ kont) :
    bd_Watch_set_length S_lengthened S_shortened (G_Watch__check_tie C) G_is_count G_is_less G_is_short G_with_length C { nx := fun _ μ' => GhV kont .non μ', rt := GhV kont } (startD N_Watch_set_length ds) μ := by
  obtain ⟨p, q, W, i, a, b, o, o', rfl, hW, hi, ho, hdl, hk⟩ := h
  unfold bd_Watch_set_length
  have hil : i < W.ts.length := (List.getElem?_eq_some_iff.mp hi).1
  have hab := hW.tw _ (List.mem_of_getElem? hi)
  have hn := hW.n2
  have htl := hW.tl
  refine sSeq_i ⟨.loc p, rfl, ⟨_, hW.mp, rfl⟩, [.int i], rfl, rfl, .non, check_tie_eq hW hil, sSeq_i (sIf_f (chg_ok ho rfl) (sSeq_i ?_))⟩
  refine ⟨[tsD W.ts, tbD W.n W.ts], ?_, sSeq_i ?_⟩
  · simp only [eCons, eNil, e1, eV, slot, startD, List.map, List.cons_append, Option.bind_some, hW.ties, hW.table]
  refine ⟨.tup [.int a, .int b, oD o], ?_, [.int a, .int b, oD o], rfl, rfl, rfl, sSeq_i ?_⟩
  · show gIx μ (tsD W.ts) (.int (i : Nat)) = some (tieD (a, b, o))
    exact ix_lst (by rw [List.getElem?_map, hi]; rfl)
  -- the ties
  have hw := with_length_ties (μ := μ) (o := o') hi (Nat.le_trans hW.tl (by decide))
  refine ⟨tsD (W.ts.set i (a, b, o')), ?_, .loc p, rfl, ⟨_, hW.mp, (by show (5 : Nat) < 1000; omega), ?_⟩⟩
  · exact hw
  rw [put_ties]
  have tw' := hW.tw.set hi ho
  have wf := hW.tw.wf
  have wf' := tw'.wf
  have hfl : gFld C "_ties" (updM μ p (.ins C [("_head", .lst W.hd), ("_many", .int W.n), ("_ties", tsD (W.ts.set i (a, b, o'))), ("_table", tbD W.n W.ts), ("_done", .loc q)])) (.loc p) = some (tsD (W.ts.set i (a, b, o'))) := fld_of updM_same lk_ties
  have hfm : gFld C "_many" (updM μ p (.ins C [("_head", .lst W.hd), ("_many", .int W.n), ("_ties", tsD (W.ts.set i (a, b, o'))), ("_table", tbD W.n W.ts), ("_done", .loc q)])) (.loc p) = some (.int W.n) := fld_of updM_same lk_many
  -- the rest, once the table is known
  have rest : ∀ E : DEnds, E = { nx := fun _ μ' => GhV kont .non μ', rt := GhV kont } → 
      sSeq (sAsg (dCall (pN gSumA) (dCons (dFz (dLc2 (iZp (dPA (eCons (eV 5) (eCons (e1 (gFld C "_table") (eV 0)) eNil)))) (dgTup 2 (dgCons (dgName 9) (dgCons (dgName 10) dgNil))) dYes (iZp (dPA (eCons (eV 9) (eCons (eV 10) eNil)))) (dgTup 2 (dgCons (dgName 11) (dgCons (dgName 12) dgNil))) dYes (dP (e2 (gEq true) (eV 11) (eV 12))) [9, 10, 11, 12] [11, 12])) (dPA eNil))) (dgName 3)) (sDrop (dBM fApp (dP (e1 (gFld C "_done") (eV 0))) (dPA (eCons (eN DL.gTup (eCons (eV 1) (eCons (eV 2) (eCons (eV 3) (eCons (eN DL.gTup (eCons (eV 4) (eCons (eV 5) eNil))) eNil))))) eNil)))) E
      [some (.loc p), some (.int (i : Nat)), some (oD o'), none, some (tsD W.ts), some (tbD W.n W.ts), some (.int a), some (.int b), some (oD o), none, none, none, none]
      (updM μ p (.ins C [("_head", .lst W.hd), ("_many", .int W.n), ("_ties", tsD (W.ts.set i (a, b, o'))), ("_table", tbD W.n (W.ts.set i (a, b, o'))), ("_done", .loc q)])) := fun E hE => by
    have hft : gFld C "_table" (updM μ p (.ins C [("_head", .lst W.hd), ("_many", .int W.n), ("_ties", tsD (W.ts.set i (a, b, o'))), ("_table", tbD W.n (W.ts.set i (a, b, o'))), ("_done", .loc q)])) (.loc p) = some (tbD W.n (W.ts.set i (a, b, o'))) := fld_of updM_same lk_table
    have hfd : gFld C "_done" (updM μ p (.ins C [("_head", .lst W.hd), ("_many", .int W.n), ("_ties", tsD (W.ts.set i (a, b, o'))), ("_table", tbD W.n (W.ts.set i (a, b, o'))), ("_done", .loc q)])) (.loc p) = some (.loc q) := fld_of updM_same lk_done
    refine sSeq_i ?_
    refine ⟨[tbD W.n W.ts, tbD W.n (W.ts.set i (a, b, o'))], ?_, ?_⟩
    · simp only [eCons, eNil, e1, eV, slot, Option.bind_some, hft]
    show dLc2.go _ _ _ _ _ _ _ _ _ _ _ (zpD ((tab W.n (pres W.ts)).map rowT) ((tab W.n (pres (W.ts.set i (a, b, o')))).map rowT)) [] _
    rw [zp_tabs]
    refine pairs_loop hn rfl fun bs hbs => ?_
    obtain ⟨c, hc⟩ := sum_bools (μ := updM μ p (.ins C [("_head", .lst W.hd), ("_many", .int W.n), ("_ties", tsD (W.ts.set i (a, b, o'))), ("_table", tbD W.n (W.ts.set i (a, b, o'))), ("_done", .loc q)])) bs hbs
    refine ⟨[], rfl, .int c, hc, ?_⟩
    have hq : updM μ p (.ins C [("_head", .lst W.hd), ("_many", .int W.n), ("_ties", tsD (W.ts.set i (a, b, o'))), ("_table", tbD W.n (W.ts.set i (a, b, o'))), ("_done", .loc q)]) q = some (dW W) := by
      rw [updM_ne hW.pq.symm]
      exact hW.mq
    refine ⟨.loc q, ?_, ⟨_, itemsL_loc hq⟩, [chgD W.n ⟨i, o', c, W.ts⟩], ?_, lstAt_i hq ⟨?_, ?_⟩⟩
    · simp only [e1, eV, slot, setS, Option.bind_some, hfd]
    · simp only [eCons, eNil, eN, eV, slot, setS, Option.bind_some, DL.gTup, List.length_cons, List.length_nil, Nat.reduceAdd, Nat.reduceLeDiff, if_true, chgD]
    · rw [List.length_map]
      omega
    · subst hE
      refine GhV.done ?_
      have := hk c
      unfold putW mW dW WS.set at this
      simp only [List.map_append, List.map_cons, List.map_nil] at this
      exact this
  refine sSeq_i ?_
  have il : G_is_less (updM μ p (.ins C [("_head", .lst W.hd), ("_many", .int W.n), ("_ties", tsD (W.ts.set i (a, b, o'))), ("_table", tbD W.n W.ts), ("_done", .loc q)])) [oD o', oD o] = some (.bl (ltO o' o)) := is_less_o
  have t1 : eTst (eFn G_is_less [] 2 (eCons (eV 2) (eCons (eV 8) eNil))) [some (.loc p), some (.int (i : Nat)), some (oD o'), none, some (tsD W.ts), some (tbD W.n W.ts), some (.int a), some (.int b), some (oD o), none, none, none, none] (updM μ p (.ins C [("_head", .lst W.hd), ("_many", .int W.n), ("_ties", tsD (W.ts.set i (a, b, o'))), ("_table", tbD W.n W.ts), ("_done", .loc q)])) = some (ltO o' o) := by
    simp only [eTst, eFn, eN, eCons, eNil, eV, slot, Option.bind_some, List.append_nil, List.length_cons, List.length_nil, if_true, il]
  cases hlt : ltO o' o with
  | true =>
    rw [hlt] at t1
    cases o' with
    | none => cases hlt
    | some l =>
      refine sIf_t t1 ⟨[tbD W.n W.ts, .int a, .int b, .int l], rfl, rfl, W.n, pres W.ts, a, b, l, rfl, wf, hab.1, hab.2.1, (ho l rfl).1, by omega, .loc p, rfl, _, updM_same, (by show (5 : Nat) < 1000; omega), ?_⟩
      rw [put_table, updM_twice, tab_short hi wf hab.1 hab.2.1 (ho l rfl).1 hlt]
      exact rest _ rfl
  | false =>
    rw [hlt] at t1
    refine sIf_f t1 ⟨[.int W.n, tbD W.n W.ts, tsD (W.ts.set i (a, b, o')), .int a, .int b, oD o], ?_, rfl, W.n, W.ts, i, a, b, o, o', rfl, hi, wf, wf', hab.1, hab.2.1, hlt, by omega, by omega, .loc p, rfl, _, updM_same, (by show (5 : Nat) < 1000; omega), ?_⟩
    · show eCons (e1 (gFld C "_many") (eV 0)) (eCons (eV 5) (eCons (e1 (gFld C "_ties") (eV 0)) (eCons (eV 6) (eCons (eV 7) (eCons (eV 8) eNil))))) [some (.loc p), some (.int (i : Nat)), some (oD o'), none, some (tsD W.ts), some (tbD W.n W.ts), some (.int a), some (.int b), some (oD o), none, none, none, none] _ = _
      simp only [eCons, eNil, e1, eV, slot, Option.bind_some, hfm, hfl]
    · rw [put_table, updM_twice]
      exact rest _ rfl
end K60
end

section
set_option maxRecDepth 100000
/-! S11: data that are compared; undo, enough. -/
namespace K60
open PySem PySem.Spec PyProof.Rows L2 DL Wl

/-- plain data of depth k at most -/
def Dk (k : Nat) (d : D) : Prop := ∃ e, pyF d = some e ∧ e.canLay0 = true ∧ e.depth ≤ k
theorem Dk.all {k : Nat} : ∀ {xs : List D}, (∀ x ∈ xs, Dk k x) → ∃ es, pyFs xs = some es ∧ PyData.canLayAll0 es = true ∧ PyData.depthAll es ≤ k ∧ es.length = xs.length
  | [], _ => ⟨[], rfl, rfl, Nat.zero_le _, rfl⟩
  | x :: r, h => by
    obtain ⟨e, h1, h2, h3⟩ := h x List.mem_cons_self
    obtain ⟨es, h4, h5, h6, h7⟩ := Dk.all fun y hy => h y (List.mem_cons_of_mem _ hy)
    refine ⟨e :: es, ?_, ?_, ?_, ?_⟩
    · simp only [pyFs, h1, h4]
    · simp only [PyData.canLayAll0, h2, h5, Bool.and_self]
    · simp only [PyData.depthAll]
      omega
    · rw [List.length_cons, List.length_cons, h7]
theorem Dk.tup {k : Nat} {xs : List D} (h : ∀ x ∈ xs, Dk k x) : Dk (k + 1) (.tup xs) := by
  obtain ⟨es, h1, h2, h3, _⟩ := Dk.all h
  refine ⟨.tuple es, ?_, ?_, ?_⟩
  · simp only [pyF, h1]
  · simp only [PyData.canLay0, h2]
  · simp only [PyData.depth]
    omega
theorem Dk.lst {k : Nat} {xs : List D} (h : ∀ x ∈ xs, Dk k x) : Dk (k + 1) (.lst xs) := by
  obtain ⟨es, h1, h2, h3, _⟩ := Dk.all h
  refine ⟨.list es, ?_, ?_, ?_⟩
  · simp only [pyF, h1]
  · simp only [PyData.canLay0, h2]
  · simp only [PyData.depth]
    omega
theorem Dk.le {k j : Nat} {d : D} (h : Dk k d) (hk : k ≤ j) : Dk j d := by
  obtain ⟨e, h1, h2, h3⟩ := h
  exact ⟨e, h1, h2, by omega⟩
theorem dk_int {k : Nat} (i : Int) : Dk k (.int i) := ⟨.int i, rfl, rfl, Nat.zero_le _⟩
theorem dk_o {k : Nat} (o : Option Int) : Dk k (oD o) := by
  cases o with
  | none => exact ⟨.none, rfl, rfl, Nat.zero_le _⟩
  | some i => exact dk_int i
theorem dk_row (r : List (Option Int)) : Dk 1 (rowT r) := Dk.tup fun x hx => by
  obtain ⟨o, _, rfl⟩ := List.mem_map.mp hx
  exact dk_o o
theorem dk_tab (t : List (List (Option Int))) : Dk 2 (tabT t) := Dk.tup fun x hx => by
  obtain ⟨r, _, rfl⟩ := List.mem_map.mp hx
  exact dk_row r
theorem dk_tie (t : Ty) : Dk 1 (tieD t) := Dk.tup fun x hx => by
  simp only [List.mem_cons, List.not_mem_nil, or_false] at hx
  rcases hx with rfl | rfl | rfl
  · exact dk_int _
  · exact dk_int _
  · exact dk_o _
theorem dk_ties (ts : List Ty) : Dk 2 (tsD ts) := Dk.lst fun x hx => by
  obtain ⟨t, _, rfl⟩ := List.mem_map.mp hx
  exact dk_tie t
theorem dk_chg (n : Nat) (c : Chg) : Dk 4 (chgD n c) := Dk.tup fun x hx => by
  simp only [List.mem_cons, List.not_mem_nil, or_false] at hx
  rcases hx with rfl | rfl | rfl | rfl
  · exact dk_int _
  · exact dk_o _
  · exact dk_int _
  · refine Dk.tup fun x hx => ?_
    simp only [List.mem_cons, List.not_mem_nil, or_false] at hx
    rcases hx with rfl | rfl
    · exact dk_ties _
    · exact dk_tab _
section
variable {μ : Mu}
theorem nil_eq {q : Addr} {xs : List D} {k : Nat} {neg : Bool} (h : μ q = some (.lst xs)) (hx : ∀ x ∈ xs, Dk k x) (hk : k ≤ 60) : gEq neg μ (.loc q) (.lst []) = some (.bl (xs.isEmpty != neg)) := by
  obtain ⟨es, h1, h2, h3, h4⟩ := Dk.all hx
  have e1 : pyOf μ (.loc q) = some (.list es) := by simp only [pyOf, h, h1]
  have e2 : pyOf μ (.lst []) = some (.list []) := rfl
  have sh : SeqAt.shaped (.list es) = true := by
    have h5 : (PyData.list es).canLay0 = true := by simp only [PyData.canLay0, h2]
    have h6 : (PyData.list es).depth ≤ 64 := by
      simp only [PyData.depth]
      omega
    unfold SeqAt.shaped
    rw [h5, Bool.true_and]
    exact decide_eq_true h6
  have e3 : eqB μ (.loc q) (.lst []) = some xs.isEmpty := by
    simp only [eqB, e1, e2]
    rw [if_pos ⟨sh, by decide⟩, eqv_nil]
    cases es with
    | nil =>
      cases xs with
      | nil => rfl
      | cons x r => cases h4
    | cons e r =>
      cases xs with
      | nil => cases h4
      | cons x r => rfl
  simp only [gEq, e3]
/-! ### rows are compared -/
def oP : Option Int → PyData
  | none => .none
  | some i => .int i
theorem pyFs_o : ∀ r : List (Option Int), pyFs (r.map oD) = some (r.map oP)
  | [] => rfl
  | x :: r => by
    rw [List.map_cons]
    simp only [pyFs, pyFs_o r]
    cases x <;> rfl
theorem eqv_o : ∀ r s : List (Option Int), PyData.eqvAll (r.map oP) (s.map oP) = decide (r = s)
  | [], [] => by simp [PyData.eqvAll]
  | [], x :: s => by simp [PyData.eqvAll]
  | x :: r, [] => by simp [PyData.eqvAll]
  | x :: r, y :: s => by
    simp only [List.map_cons, PyData.eqvAll, eqv_o r s]
    have : PyData.eqv (oP x) (oP y) = decide (x = y) := by
      cases x <;> cases y <;> simp [oP, PyData.eqv]
      rename_i a b
      by_cases h : a = b <;> simp [h]
    rw [this]
    by_cases h1 : x = y <;> by_cases h2 : r = s <;> simp [h1, h2]
theorem row_ne {r s : List (Option Int)} {neg : Bool} : gEq neg μ (rowT r) (rowT s) = some (.bl (decide (r = s) != neg)) := by
  have e1 : ∀ r : List (Option Int), pyOf μ (rowT r) = some (.tuple (r.map oP)) := fun r => by
    show pyF (rowT r) = _
    unfold rowT
    simp only [pyF, pyFs_o]
  have sh : ∀ r : List (Option Int), SeqAt.shaped (.tuple (r.map oP)) = true := fun r => by
    obtain ⟨e, h1, h2, h3⟩ := dk_row r
    have : pyF (rowT r) = some (.tuple (r.map oP)) := e1 r
    rw [this] at h1
    cases h1
    unfold SeqAt.shaped
    rw [h2, Bool.true_and, decide_eq_true_eq]
    omega
  have e3 : eqB μ (rowT r) (rowT s) = some (decide (r = s)) := by
    have e1r := e1 r
    have e1s := e1 s
    unfold rowT at e1r e1s ⊢
    simp only [eqB, e1r, e1s]
    rw [if_pos ⟨sh r, sh s⟩]
    simp only [PyData.eqv, eqv_o]
  simp only [gEq, e3]
end
/-- back by one -/
def WS.back (W : WS) (ts : List Ty) (dn : List Chg) : WS := { W with ts := ts, dn := dn }
def S_undo (C : Addr) : DC := fun ds μ k => ∃ p q W c dn, ds = [.loc p] ∧ Wat C μ p q W ∧ W.dn = dn ++ [c] ∧ k .non (putW C μ p q (W.back c.ts dn))
theorem sem_undo (C : Addr) (ds : List D) (μ : Mu) (kont : DK) (h : S_undo C ds μ kont) :
    bd_Watch_undo C { nx := fun _ μ' => GhV kont .non μ', rt := GhV kont } (startD N_Watch_undo ds) μ := by
  obtain ⟨p, q, W, c, dn, rfl, hW, hd, hk⟩ := h
  unfold bd_Watch_undo
  have hq : μ q = some (.lst (W.dn.map (chgD W.n))) := hW.mq
  have hne : (W.dn.map (chgD W.n)).isEmpty = false := by
    rw [hd]
    simp
  have t1 : eTst (e2 (gEq false) (e1 (gFld C "_done") (eV 0)) (eN DL.gLst eNil)) [some (.loc p), none, none, none, none] μ = some false := by
    have eg : eN DL.gLst eNil [some (.loc p), none, none, none, none] μ = some (.lst []) := rfl
    simp only [eTst, e2, e1, eV, slot, Option.bind_some, hW.done, eg, nil_eq hq (fun x hx => by
      obtain ⟨c, _, rfl⟩ := List.mem_map.mp hx
      exact dk_chg _ c) (by decide : 4 ≤ 60), hne, Bool.bne_false]
  refine sSeq_i (sIf_f t1 (sSeq_i ⟨.loc q, hW.done, ⟨_, itemsL_loc hq⟩, lstAt_i hq ⟨rfl, chgD W.n c, ?_, ?_⟩⟩))
  · rw [hd, List.map_append, List.length_append]
    simp
  · refine ⟨[.int c.i, oD c.o, .int c.c, .tup [tsD c.ts, tbD W.n c.ts]], rfl, rfl, rfl, ?_⟩
    have hp : updM μ q (.lst (W.dn.map (chgD W.n)).dropLast) p = some (mW C q W) := by
      rw [updM_ne hW.pq]
      exact hW.mp
    refine ⟨.tup [tsD c.ts, tbD W.n c.ts], rfl, [tsD c.ts, tbD W.n c.ts], rfl, rfl, ⟨.loc p, rfl, _, hp, by show (5 : Nat) < 1000; omega, ?_⟩⟩
    refine ⟨.loc p, rfl, _, updM_same, by rw [put_ties]; show (5 : Nat) < 1000; omega, rfl, ?_⟩
    rw [put_ties, put_table, updM_twice, updM_swap hW.pq.symm]
    have e : (W.dn.map (chgD W.n)).dropLast = dn.map (chgD W.n) := by
      rw [hd, List.map_append, List.map_cons, List.map_nil, List.dropLast_concat]
    rw [e]
    exact GhV.done hk
/-- enough -/
def S_enough (C : Addr) : DC := fun ds μ k => ∃ p q W i a b o, ds = [.loc p, .int (i : Nat)] ∧ Wat C μ p q W ∧ W.ts[i]? = some (a, b, o) ∧ k (oD (dist (pres (W.ts.set i (a, b, none))) a b)) μ
theorem sem_enough (C : Addr) (ds : List D) (μ : Mu) (kont : DK) (h : S_enough C ds μ kont) :
    bd_Watch_enough (G_Watch__check_tie C) G_lengths_from G_present G_with_length C { nx := fun _ μ' => GhV kont .non μ', rt := GhV kont } (startD N_Watch_enough ds) μ := by
  obtain ⟨p, q, W, i, a, b, o, rfl, hW, hi, hk⟩ := h
  unfold bd_Watch_enough
  have hil : i < W.ts.length := (List.getElem?_eq_some_iff.mp hi).1
  have hab := hW.tw _ (List.mem_of_getElem? hi)
  have hn := hW.n2
  have htl := hW.tl
  have tw' := hW.tw.set (o' := none) hi fun l hl => by cases hl
  refine sSeq_i ⟨.loc p, rfl, ⟨_, hW.mp, rfl⟩, [.int i], rfl, rfl, .non, check_tie_eq hW hil, sSeq_i ?_⟩
  refine ⟨.tup [.int a, .int b, oD o], ?_, [.int a, .int b, oD o], rfl, rfl, rfl, ?_⟩
  · have : gIx μ (tsD W.ts) (.int (i : Nat)) = some (tieD (a, b, o)) := ix_lst (by rw [List.getElem?_map, hi]; rfl)
    simp only [e2, e1, eV, slot, startD, List.map, List.cons_append, Option.bind_some, hW.ties, this]
    rfl
  refine ⟨oD (dist (pres (W.ts.set i (a, b, none))) a b), ?_, GhV.done hk⟩
  have hw := with_length_ties (μ := μ) (o := none) hi (Nat.le_trans htl (by decide))
  have hw' : G_with_length μ [tsD W.ts, .int (i : Nat), .non] = some (.lst ((W.ts.set i (a, b, none)).map tieD)) := hw
  have hpl : (W.ts.set i (a, b, none)).length ≤ 120 := by rw [List.length_set]; exact htl
  have hp := present_ties (μ := μ) (ts := W.ts.set i (a, b, none)) (by omega)
  have hf : G_lengths_from μ [.int W.n, .lst ((pres (W.ts.set i (a, b, none))).map edgeD), .int (a : Nat)] = some (.lst ((Wl.rowOf W.n (pres (W.ts.set i (a, b, none))) a).map oD)) := row_eq (W := .lst) rfl tw'.wf hab.1 (by omega) (Nat.le_trans (pres_len _) (by omega))
  have hix : gIx μ (.lst ((Wl.rowOf W.n (pres (W.ts.set i (a, b, none))) a).map oD)) (.int (b : Nat)) = some (oD (dist (pres (W.ts.set i (a, b, none))) a b)) := ix_lst (oget hab.2.1)
  show e2 gIx (eFn G_lengths_from [] 3 (eCons (e1 (gFld C "_many") (eV 0)) (eCons (eFn G_present [] 1 (eCons (eFn G_with_length [] 3 (eCons (e1 (gFld C "_ties") (eV 0)) (eCons (eV 1) (eCons (eC .non) eNil)))) eNil)) (eCons (eV 2) eNil)))) (eV 3) [some (.loc p), some (.int (i : Nat)), some (.int a), some (.int b), some (oD o)] μ = _
  simp only [e2, eFn, eN, eCons, eNil, e1, eV, eC, slot, Option.bind_some, hW.many, hW.ties, List.append_nil, List.length_cons, List.length_nil, if_true, hw', hp, hf, hix]
end K60
end

section
set_option maxRecDepth 100000
/-! S12: texts. -/
namespace K60
open PySem PySem.Spec PyProof.Rows L2 DL Wl

section
variable {a b : EvS} {e : EvE} {t : EvT} {g : EvG} {ρ ρ' : Ro} {μ : Mu} {d x : D} {N : List Str} {ds : List D} {r : Option Fw}
theorem z_seq (h : a ρ μ = some (.nx ρ')) (h2 : b ρ' μ = r) : zSeq a b ρ μ = r := by simp only [zSeq, h, h2]
theorem z_drop (h : e ρ μ = some d) : zDrop e ρ μ = some (.nx ρ) := by simp only [zDrop, h]
theorem z_asg (h : e ρ μ = some x) (h2 : g x ρ μ = some ρ') : zAsg e g ρ μ = some (.nx ρ') := by simp only [zAsg, h, h2]
theorem z_ift (h : t ρ μ = some true) (h2 : a ρ μ = r) : zIf t a b ρ μ = r := by simp only [zIf, h, h2]
theorem z_iff (h : t ρ μ = some false) (h2 : b ρ μ = r) : zIf t a b ρ μ = r := by simp only [zIf, h, h2]
theorem z_ret (h : e ρ μ = some d) : zRet e ρ μ = some (.ret d) := by simp only [zRet, h]
theorem e2_i {f : Mu → D → D → Option D} {u v : EvE} {y : D} (h1 : u ρ μ = some x) (h2 : v ρ μ = some y) (h3 : f μ x y = some d) : e2 f u v ρ μ = some d := by simp only [e2, h1, h2, Option.bind_some, h3]
theorem e1_i {f : Mu → D → Option D} {u : EvE} (h1 : u ρ μ = some x) (h3 : f μ x = some d) : e1 f u ρ μ = some d := by simp only [e1, h1, Option.bind_some, h3]
theorem g_ret {ev : EvS} (h : ev (startD N ds) μ = some (.ret d)) : gOf N ev μ ds = some d := by simp only [gOf, h]
end
abbrev Ln := List Nat
def headL (n : Nat) : Ln := [112, 108, 97, 99, 101, 115, 32] ++ TL.numL n
def tieL (e : Edge) : Ln := [116, 105, 101, 32] ++ TL.numL e.1 ++ [32] ++ TL.numL e.2.1 ++ [32] ++ TL.numL e.2.2.toNat
def mapL (n : Nat) (E : List Edge) : List Ln := headL n :: E.map tieL
def wordL : Ln := [119, 97, 116, 99, 104]
def chgL (i : Nat) (o : Option Int) : Ln := match o with
  | none => [111, 117, 116, 32] ++ TL.numL i
  | some l => [108, 101, 110, 103, 116, 104, 32] ++ TL.numL i ++ [32] ++ TL.numL l.toNat
def sD (l : Ln) : D := .str (SX.S l)
theorem lit_places : Str.ofString "places " = SX.S [112, 108, 97, 99, 101, 115, 32] := rfl
theorem lit_tie : Str.ofString "tie " = SX.S [116, 105, 101, 32] := rfl
theorem lit_sp : Str.ofString " " = SX.S [32] := rfl
theorem lit_nl : Str.ofString "\n" = SX.S [10] := rfl
theorem lit_watch : Str.ofString "watch" = SX.S wordL := rfl
theorem lit_out : Str.ofString "out" = SX.S [111, 117, 116] := rfl
theorem lit_length : Str.ofString "length" = SX.S [108, 101, 110, 103, 116, 104] := rfl
theorem lit_empty : Str.empty = SX.S [] := rfl
section
variable {μ : Mu} {ρ : Ro}
theorem js_nil {a : Ln} : eJs [] (SX.S a) ρ μ = some (sD a) := rfl
theorem js_cons {t : EvE} {r : List EvE} {a y : Ln} (h : t ρ μ = some (sD y)) (hl : (a ++ y).length ≤ 1000000) : eJs (t :: r) (SX.S a) ρ μ = eJs r (SX.S (a ++ y)) ρ μ := by
  have : (SX.S a ++ SX.S y).length ≤ 1000000 := by
    rw [SX.S_cat, SX.S_len]
    exact hl
  simp only [eJs, h, sD]
  rw [if_pos this, SX.S_cat]
theorem log_small {i : Nat} (h : i < 10 ^ 100) : i.log2 < 1920 := by
  by_cases h0 : i = 0
  · subst h0
    decide
  · rw [Nat.log2_lt h0]
    have h1 : (10 : Nat) ^ 100 ≤ (2 ^ 4) ^ 100 := Nat.pow_le_pow_left (by decide) 100
    have h2 : ((2 : Nat) ^ 4) ^ 100 = 2 ^ 400 := (Nat.pow_mul 2 4 100).symm
    have h3 : (2 : Nat) ^ 400 ≤ 2 ^ 1920 := Nat.pow_le_pow_right (by decide) (by decide)
    omega
theorem fmt_nat {n : Nat} (h : n < 10 ^ 100) : gFmt μ (.int (n : Int)) = some (sD (TL.numL n)) := by
  have h1 : ((n : Int)).natAbs.log2 < 1920 := by
    rw [Int.natAbs_natCast]
    exact log_small h
  simp only [gFmt, h1, if_true, sD]
  rw [SX.num_S]
theorem fmt_int {l : Int} (h0 : 0 ≤ l) (h : l < 10 ^ 100) : gFmt μ (.int l) = some (sD (TL.numL l.toNat)) := by
  have e : l = (l.toNat : Int) := by omega
  have h1 : l.toNat < 10 ^ 100 := by
    have h2 : ((l.toNat : Nat) : Int) < ((10 ^ 100 : Nat) : Int) := by
      rw [← e]
      exact_mod_cast h
    exact Int.ofNat_lt.mp h2
  rw [e]
  rw [Int.toNat_natCast]
  exact fmt_nat h1
theorem fmt_str {l : Ln} (h : l.length ≤ 1000000) : gFmt μ (sD l) = some (sD l) := by
  have : (SX.S l).length ≤ 1000000 := by rw [SX.S_len]; exact h
  simp only [gFmt, sD, this, if_true]
theorem num_len {n : Nat} (h : n < 10 ^ 100) : (TL.numL n).length ≤ 100 := TL.numL_len (by decide) h
theorem split_join_S {s : Nat} (hs : s < 256) {parts : List Ln} (hne : parts ≠ []) (h : ∀ p ∈ parts, s ∉ p) : Txt.split (SX.S (TL.joinL [s] parts)) (SX.S [s]) = parts.map SX.S := by
  rw [SX.split_S (by simp) (by simpa using hs), SX.spl_join hne h]
/-- the order and bounds of a map's texts -/
structure Mt (n : Nat) (E : List Edge) : Prop where
  map : Map n E
  sh : ∀ u v l, (u, v, l) ∈ E → l < 10 ^ 100
theorem small20 {n : Nat} (h : n ≤ 120) : n < 10 ^ 100 := Nat.lt_of_le_of_lt h (by
  have : (10 : Nat) ^ 3 ≤ 10 ^ 100 := Nat.pow_le_pow_right (by decide) (by decide)
  omega)
theorem toNat_small {l : Int} (h0 : 0 ≤ l) (h : l < 10 ^ 100) : l.toNat < 10 ^ 100 := by
  have e : l = (l.toNat : Int) := by omega
  have h2 : ((l.toNat : Nat) : Int) < ((10 ^ 100 : Nat) : Int) := by
    rw [← e]
    exact_mod_cast h
  exact Int.ofNat_lt.mp h2
theorem head_len {n : Nat} (h : n ≤ 120) : (headL n).length ≤ 107 := by
  have := num_len (small20 h)
  unfold headL
  simp only [List.length_append, List.length_cons, List.length_nil]
  omega
theorem tie_len {e : Edge} (h1 : e.1 ≤ 120) (h2 : e.2.1 ≤ 120) (h3 : e.2.2.toNat < 10 ^ 100) : (tieL e).length ≤ 306 := by
  have a := num_len (small20 h1)
  have b := num_len (small20 h2)
  have c := num_len h3
  unfold tieL
  simp only [List.length_append, List.length_cons, List.length_nil]
  omega
theorem head_free {n s : Nat} (h : s = 10) : s ∉ headL n := fun hm => by
  subst h
  unfold headL at hm
  rw [List.mem_append] at hm
  rcases hm with hm | hm
  · exact absurd hm (by decide)
  · exact TL.numL_free (.inl (by decide)) hm
theorem tie_free {e : Edge} : 10 ∉ tieL e := fun hm => by
  unfold tieL at hm
  simp only [List.mem_append] at hm
  rcases hm with ((((hm | hm) | hm) | hm) | hm) | hm
  · exact absurd hm (by decide)
  · exact TL.numL_free (.inl (by decide)) hm
  · exact absurd hm (by decide)
  · exact TL.numL_free (.inl (by decide)) hm
  · exact absurd hm (by decide)
  · exact TL.numL_free (.inl (by decide)) hm
theorem map_free {n : Nat} {E : List Edge} : ∀ p ∈ mapL n E, 10 ∉ p := fun p hp => by
  unfold mapL at hp
  rcases List.mem_cons.mp hp with rfl | hp
  · exact head_free rfl
  · obtain ⟨e, _, rfl⟩ := List.mem_map.mp hp
    exact tie_free
theorem sum_le (c : Nat) : ∀ l : List (List Nat), (∀ p ∈ l, p.length ≤ c) → (l.map (·.length)).sum ≤ l.length * c
  | [], _ => by simp
  | p :: r, h => by
    have := sum_le c r fun q hq => h q (List.mem_cons_of_mem _ hq)
    have h1 := h p List.mem_cons_self
    simp only [List.map_cons, List.sum_cons, List.length_cons, Nat.succ_mul]
    omega
theorem join_lines {ls : List (List Nat)} {x : D} {s : Nat} (hx : items μ x = some (ls.map sD)) (h : ∀ p ∈ ls, p.length ≤ 1000) (hl : ls.length ≤ 1000) : gJoin μ (sD [s]) x = some (sD (TL.joinL [s] ls)) := by
  have e1 : ls.map sD = (ls.map SX.S).map .str := by
    rw [List.map_map]
    rfl
  have h1 := sum_le 1000 ls h
  have h2 : ls.length * 1000 ≤ 1000 * 1000 := Nat.mul_le_mul_right _ hl
  have h3 : (((ls.map SX.S).map (·.length)).sum + (ls.map SX.S).length * (SX.S [s]).length) ≤ 16777216 := by
    rw [SX.lens, List.length_map, SX.S_len, List.length_singleton]
    omega
  simp only [gJoin, sD, hx]
  rw [e1, strsOf_map]
  simp only [h3, if_true]
  rw [SX.join_S]
def G_write_map : Mu → List D → Option D := gOf N_write_map (ev_write_map G_check_map G_is_short)
theorem write_map_eq {n : Nat} {E : List Edge} (h : Mt n E) : G_write_map μ [roadsD n E] = some (sD (TL.joinL [10] (mapL n E))) := by
  have hn := h.map.n2
  have hm := h.map.m
  have hl : E.length ≤ 100000 := Nat.le_trans hm (by decide)
  have k1 : lcGo (egTup 3 (egCons (egName 3) (egCons (egName 4) (egCons (egName 5) egNil)))) eYes (eFn G_is_short [] 1 (eCons (eV 5) eNil)) [some (roadsD n E), some (.int n), some (.tup (E.map edgeD)), none, none, none] μ (E.map edgeD) = some (E.map fun _ => D.bl true) := by
    refine lcGo_map edgeD (fun _ => .bl true) _ fun e he => ⟨[some (roadsD n E), some (.int n), some (.tup (E.map edgeD)), some (.int e.1), some (.int e.2.1), some (.int e.2.2)], rfl, rfl, ?_⟩
    have h3 : e.2.2 < 10 ^ 1000 := Int.lt_of_lt_of_le (h.sh _ _ _ he) short_le
    simp only [eFn, eN, eCons, eNil, eV, slot, Option.bind_some, List.append_nil, List.length_cons, List.length_nil, if_true, is_short_int, decide_eq_true h3]
  have k2 : lcGo (egTup 3 (egCons (egName 3) (egCons (egName 4) (egCons (egName 5) egNil)))) eYes (eJs [(eC (.str "tie ")), (e1 gFmt (eV 3)), (eC (.str " ")), (e1 gFmt (eV 4)), (eC (.str " ")), (e1 gFmt (eV 5))] Str.empty) [some (roadsD n E), some (.int n), some (.tup (E.map edgeD)), none, none, none] μ (E.map edgeD) = some (E.map fun e => sD (tieL e)) := by
    refine lcGo_map edgeD (fun e => sD (tieL e)) _ fun e he => ⟨[some (roadsD n E), some (.int n), some (.tup (E.map edgeD)), some (.int e.1), some (.int e.2.1), some (.int e.2.2)], rfl, rfl, ?_⟩
    obtain ⟨u, v, l⟩ := e
    obtain ⟨w1, w2, w3⟩ := h.map.wf _ _ _ he
    have h3 := h.sh _ _ _ he
    have a := num_len (small20 (by omega : u ≤ 120))
    have b := num_len (small20 (by omega : v ≤ 120))
    have c := num_len (toNat_small w3 h3)
    rw [lit_empty, js_cons (y := [116, 105, 101, 32]) rfl (by decide), js_cons (y := TL.numL u) (fmt_nat (μ := μ) (small20 (by omega))) (by simp only [List.length_append, List.length_cons, List.length_nil]; omega), js_cons (y := [32]) rfl (by simp only [List.length_append, List.length_cons, List.length_nil]; omega),
      js_cons (y := TL.numL v) (fmt_nat (μ := μ) (small20 (show v ≤ 120 by omega))) (by simp only [List.length_append, List.length_cons, List.length_nil]; omega), js_cons (y := [32]) rfl (by simp only [List.length_append, List.length_cons, List.length_nil]; omega), js_cons (y := TL.numL l.toNat) (fmt_int (μ := μ) w3 h3) (by simp only [List.length_append, List.length_cons, List.length_nil]; omega), js_nil]
    rfl
  have k3 : eJs [(eC (.str "places ")), (e1 gFmt (eV 1))] Str.empty [some (roadsD n E), some (.int n), some (.tup (E.map edgeD)), none, none, none] μ = some (sD (headL n)) := by
    have a := num_len (small20 (by omega : n ≤ 120))
    rw [lit_empty, js_cons (y := [112, 108, 97, 99, 101, 115, 32]) rfl (by decide), js_cons (y := TL.numL n) (fmt_nat (μ := μ) (small20 (by omega))) (by simp only [List.length_append, List.length_cons, List.length_nil]; omega), js_nil]
    rfl
  have k4 : gJoin μ (.str "\n") (.lst (sD (headL n) :: E.map fun e => sD (tieL e))) = some (sD (TL.joinL [10] (mapL n E))) := by
    refine join_lines (ls := mapL n E) (s := 10) ?_ (fun p hp => ?_) ?_
    · show some _ = _
      unfold mapL
      rw [List.map_cons, List.map_map]
      rfl
    · unfold mapL at hp
      rcases List.mem_cons.mp hp with rfl | hp
      · exact Nat.le_trans (head_len (by omega)) (by decide)
      · obtain ⟨⟨u, v, l⟩, he, rfl⟩ := List.mem_map.mp hp
        obtain ⟨w1, w2, w3⟩ := h.map.wf _ _ _ he
        exact Nat.le_trans (tie_len (show u ≤ 120 by omega) (show v ≤ 120 by omega) (toNat_small w3 (h.sh _ _ _ he))) (by decide)
    · unfold mapL
      rw [List.length_cons, List.length_map]
      omega
  have k5 : gAdd μ (.lst [sD (headL n)]) (.lst (E.map fun e => sD (tieL e))) = some (.lst (sD (headL n) :: E.map fun e => sD (tieL e))) := by
    have : 1 + E.length ≤ 100000 := by omega
    simp only [gAdd, itemsM, List.length_cons, List.length_nil, List.length_map, Nat.zero_add, this, if_true]
    rfl
  refine g_ret (z_seq (z_drop (d := .non) ?_) (z_seq (z_asg (x := roadsD n E) rfl (ρ' := [some (roadsD n E), some (.int n), some (.tup (E.map edgeD)), none, none, none]) rfl) (z_seq (z_iff ?_ rfl) (z_ret ?_))))
  · show eFn G_check_map [] 1 (eCons (eV 0) eNil) [some (roadsD n E), none, none, none, none, none] μ = _
    simp only [eFn, eN, eCons, eNil, eV, slot, Option.bind_some, List.append_nil, List.length_cons, List.length_nil, if_true, check_map_roads h.map]
  · simp only [eNotT, eTst, eN, eCons, eNil, eLc, ipSeq, eV, slot, seqI, items, Option.bind_some, List.length_map, hl, if_true, unsetAll, setS, k1, gBls, itemsL, boolsT, allT, Bool.not_true]
  · have k6 : (e2 gAdd (eN DL.gLst (eCons (eJs [(eC (.str "places ")), (e1 gFmt (eV 1))] Str.empty) eNil)) (eLc (ipSeq (eV 2)) (egTup 3 (egCons (egName 3) (egCons (egName 4) (egCons (egName 5) egNil)))) eYes (eJs [(eC (.str "tie ")), (e1 gFmt (eV 3)), (eC (.str " ")), (e1 gFmt (eV 4)), (eC (.str " ")), (e1 gFmt (eV 5))] Str.empty) [3, 4, 5])) [some (roadsD n E), some (.int n), some (.tup (E.map edgeD)), none, none, none] μ = some (.lst (sD (headL n) :: E.map fun e => sD (tieL e))) := by
      have k7 : eLc (ipSeq (eV 2)) (egTup 3 (egCons (egName 3) (egCons (egName 4) (egCons (egName 5) egNil)))) eYes (eJs [(eC (.str "tie ")), (e1 gFmt (eV 3)), (eC (.str " ")), (e1 gFmt (eV 4)), (eC (.str " ")), (e1 gFmt (eV 5))] Str.empty) [3, 4, 5] [some (roadsD n E), some (.int n), some (.tup (E.map edgeD)), none, none, none] μ = some (.lst (E.map fun e => sD (tieL e))) := by
        simp only [eLc, ipSeq, eV, slot, seqI, items, Option.bind_some, List.length_map, hl, if_true, unsetAll, setS, k2]
      simp only [e2, eN, eCons, eNil, k3, k7, Option.bind_some, DL.gLst, List.length_cons, List.length_nil, Nat.reduceAdd, Nat.reduceLeDiff, if_true, k5]
    exact e2_i rfl k6 k4
end
end K60
end

section
set_option maxRecDepth 100000
/-! S13: a new watch, its lines. -/
namespace K60
open PySem PySem.Spec PyProof.Rows L2 DL Wl
def tyE (E : List Edge) : List Ty := E.map fun e => (e.1, e.2.1, some e.2.2)
theorem pres_tyE (E : List Edge) : pres (tyE E) = E := by
  unfold pres tyE
  rw [List.filterMap_map]
  induction E with
  | nil => rfl
  | cons e r ih =>
    rw [List.filterMap_cons_some (by rfl), ih]
theorem tsD_tyE (E : List Edge) : tsD (tyE E) = .lst (E.map edgeD) := by
  unfold tsD tyE
  rw [List.map_map]
  rfl
theorem tw_tyE {n : Nat} {E : List Edge} (h : Mt n E) : Tw n (tyE E) := fun t ht => by
  unfold tyE at ht
  obtain ⟨⟨u, v, l⟩, he, rfl⟩ := List.mem_map.mp ht
  obtain ⟨w1, w2, w3⟩ := h.map.wf _ _ _ he
  exact ⟨w1, w2, h.map.ne _ _ _ he, fun m hm => by
    cases hm
    exact ⟨w3, h.sh _ _ _ he⟩⟩
/-- a new watch -/
def newW (n : Nat) (E : List Edge) : WS := ⟨n, (mapL n E).map sD, tyE E, []⟩
theorem newW_len (n : Nat) (E : List Edge) : (newW n E).ts.length = E.length := by
  show (tyE E).length = _
  unfold tyE
  rw [List.length_map]
theorem mapL_len (n : Nat) (E : List Edge) : (mapL n E).length = E.length + 1 := by
  unfold mapL
  rw [List.length_cons, List.length_map]
theorem wat_new {C : Addr} {μ : Mu} {p q : Addr} {n : Nat} {E : List Edge} (h : Mt n E) (hpq : p ≠ q) : Wat C (putW C μ p q (newW n E)) p q (newW n E) :=
  ⟨by unfold putW; rw [updM_ne hpq, updM_same], by unfold putW; rw [updM_same], hpq, h.map.n1, h.map.n2, by rw [newW_len]; exact h.map.m, tw_tyE h, by
    show ((mapL n E).map sD).length ≤ 1000
    rw [List.length_map, mapL_len]
    have := h.map.m
    omega, by show (0 : Nat) ≤ 1000; omega⟩
theorem put_head {a : D} : putFD "_head" a [] = [(("_head" : Str), a)] := rfl
theorem put_many {a b : D} : putFD "_many" b [(("_head" : Str), a)] = [(("_head" : Str), a), ("_many", b)] := by
  simp only [putFD]
  rfl
theorem put_ties3 {a b c : D} : putFD "_ties" c [(("_head" : Str), a), ("_many", b)] = [(("_head" : Str), a), ("_many", b), ("_ties", c)] := by
  simp only [putFD]
  rfl
theorem put_table4 {a b c d : D} : putFD "_table" d [(("_head" : Str), a), ("_many", b), ("_ties", c)] = [(("_head" : Str), a), ("_many", b), ("_ties", c), ("_table", d)] := by
  simp only [putFD]
  rfl
theorem put_done5 {a b c d e : D} : putFD "_done" e [(("_head" : Str), a), ("_many", b), ("_ties", c), ("_table", d)] = [(("_head" : Str), a), ("_many", b), ("_ties", c), ("_table", d), ("_done", e)] := by
  simp only [putFD]
  rfl
def S_init (C : Addr) : DC := fun ds μ k => ∃ p n E, ds = [.loc p, roadsD n E] ∧ μ p = some (.ins C []) ∧ Mt n E ∧ ∀ q, μ q = none → k .non (putW C μ p q (newW n E))
theorem joinL_len (s : Nat) (c : Nat) : ∀ ls : List (List Nat), (∀ p ∈ ls, p.length ≤ c) → (TL.joinL [s] ls).length ≤ ls.length * (c + 1)
  | [], _ => by simp [TL.joinL]
  | [p], h => by
    have := h p List.mem_cons_self
    simp only [TL.joinL, List.length_cons, List.length_nil]
    omega
  | p :: q :: r, h => by
    have h1 := h p List.mem_cons_self
    have h2 := joinL_len s c (q :: r) fun z hz => h z (List.mem_cons_of_mem _ hz)
    simp only [TL.joinL, List.length_append, List.length_cons, List.length_nil, Nat.succ_mul] at h2 ⊢
    omega
theorem mapL_short {n : Nat} {E : List Edge} (h : Mt n E) : ∀ p ∈ mapL n E, p.length ≤ 306 := fun p hp => by
  have hn := h.map.n2
  unfold mapL at hp
  rcases List.mem_cons.mp hp with rfl | hp
  · exact Nat.le_trans (head_len (by omega)) (by decide)
  · obtain ⟨⟨u, v, l⟩, he, rfl⟩ := List.mem_map.mp hp
    obtain ⟨w1, w2, w3⟩ := h.map.wf _ _ _ he
    exact tie_len (show u ≤ 120 by omega) (show v ≤ 120 by omega) (toNat_small w3 (h.sh _ _ _ he))
theorem split_map {μ : Mu} {n : Nat} {E : List Edge} (h : Mt n E) : gSplit μ (sD (TL.joinL [10] (mapL n E))) (.str "\n") = some (.lst ((mapL n E).map sD)) := by
  have h1 := joinL_len 10 306 (mapL n E) (mapL_short h)
  rw [mapL_len] at h1
  have hm := h.map.m
  have h2 : (SX.S (TL.joinL [10] (mapL n E))).length ≤ 1000000 := by
    rw [SX.S_len]
    have : (E.length + 1) * (306 + 1) ≤ 121 * 307 := Nat.mul_le_mul (by omega) (by decide)
    omega
  have h3 : ((Str.ofString "\n").length ≠ 0) := by decide
  show (if (Str.ofString "\n").length ≠ 0 ∧ (SX.S (TL.joinL [10] (mapL n E))).length ≤ 1000000 then some (D.lst ((Txt.split (SX.S (TL.joinL [10] (mapL n E))) (Str.ofString "\n")).map .str)) else none) = _
  rw [if_pos ⟨h3, h2⟩, lit_nl, split_join_S (by decide) (by unfold mapL; simp) map_free, List.map_map]
  rfl
theorem sem_init (C : Addr) (ds : List D) (μ : Mu) (kont : DK) (h : S_init C ds μ kont) :
    bd_Watch_init G_lengths_of G_write_map C { nx := fun _ μ' => GhV kont .non μ', rt := GhV kont } (startD N_Watch_init ds) μ := by
  obtain ⟨p, n, E, rfl, hp, hM, hk⟩ := h
  unfold bd_Watch_init
  have hn := hM.map.n2
  have hm := hM.map.m
  have e1' : e2 gSplit (eFn G_write_map [] 1 (eCons (eV 1) eNil)) (eC (.str "\n")) [some (.loc p), some (roadsD n E)] μ = some (.lst ((mapL n E).map sD)) := by
    refine e2_i (x := sD (TL.joinL [10] (mapL n E))) (y := .str "\n") ?_ rfl (split_map hM)
    simp only [eFn, eN, eCons, eNil, eV, slot, Option.bind_some, List.append_nil, List.length_cons, List.length_nil, if_true, write_map_eq hM]
  refine sSeq_i ⟨.lst ((mapL n E).map sD), e1', .loc p, rfl, _, hp, by show (0 : Nat) < 1000; omega, ?_⟩
  rw [put_head]
  refine sSeq_i ⟨.int n, rfl, .loc p, rfl, _, updM_same, by show (1 : Nat) < 1000; omega, ?_⟩
  rw [put_many, updM_twice]
  refine sSeq_i ⟨tsD (tyE E), ?_, .loc p, rfl, _, updM_same, by show (2 : Nat) < 1000; omega, ?_⟩
  · rw [tsD_tyE]
    rfl
  rw [put_ties3, updM_twice]
  refine sSeq_i ⟨tbD n (tyE E), ?_, .loc p, rfl, _, updM_same, by show (3 : Nat) < 1000; omega, ?_⟩
  · have := lengths_of_eq (μ := updM μ p (.ins C [("_head", .lst ((mapL n E).map sD)), ("_many", .int n), ("_ties", tsD (tyE E))])) hM.map.wf (by omega) (by omega)
    unfold tbD
    rw [pres_tyE]
    show eFn G_lengths_of [] 1 (eCons (eV 1) eNil) [some (.loc p), some (roadsD n E)] _ = _
    simp only [eFn, eN, eCons, eNil, eV, slot, Option.bind_some, List.append_nil, List.length_cons, List.length_nil, if_true, this]
  rw [put_table4, updM_twice]
  refine ⟨[], rfl, Nat.zero_le _, fun q hq => ?_⟩
  have hne : p ≠ q := fun z => by
    subst z
    rw [updM_same] at hq
    cases hq
  have hq0 : μ q = none := by
    rw [updM_ne hne.symm] at hq
    exact hq
  refine ⟨.loc p, rfl, _, (by rw [updM_ne hne, updM_same]), by show (4 : Nat) < 1000; omega, ?_⟩
  rw [put_done5, updM_swap hne.symm, updM_twice]
  exact GhV.done (hk q hq0)
/-! ### lines -/
def linesL (n : Nat) (E : List Edge) (dn : List Chg) : List Ln := mapL n E ++ [wordL] ++ dn.map fun c => chgL c.i c.o
/-- a change whose text is short -/
def Cs (c : Chg) : Prop := c.i < 120 ∧ ∀ l, c.o = some l → 0 ≤ l ∧ l < 10 ^ 100
def S_lines (C : Addr) : DC := fun ds μ k => ∃ p q W, ds = [.loc p] ∧ Wat C μ p q W ∧ (∀ c ∈ W.dn, Cs c) ∧ k (.lst (W.hd ++ [sD wordL] ++ W.dn.map fun c => sD (chgL c.i c.o))) μ
theorem chg_text {μ : Mu} {ρ : Ro} {i : Nat} {o : Option Int} (hi : i < 120) (ho : ∀ l, o = some l → 0 ≤ l ∧ l < 10 ^ 100) (h2 : slot ρ 2 = some (.int i)) (h3 : slot ρ 3 = some (oD o)) :
    eIf (eTst (e2 (gIs false) (eV 3) (eC .non))) (eJs [(e1 gFmt (eC (.str "out"))), (eC (.str " ")), (e1 gFmt (eV 2))] Str.empty) (eJs [(e1 gFmt (eC (.str "length"))), (eC (.str " ")), (e1 gFmt (eV 2)), (eC (.str " ")), (e1 gFmt (eV 3))] Str.empty) ρ μ = some (sD (chgL i o)) := by
  have a := num_len (small20 (by omega : i ≤ 120))
  have e2' : e1 gFmt (eV 2) ρ μ = some (sD (TL.numL i)) := e1_i (x := .int i) h2 (fmt_nat (μ := μ) (small20 (by omega)))
  cases o with
  | none =>
    have t : eTst (e2 (gIs false) (eV 3) (eC .non)) ρ μ = some true := by
      simp only [eTst, e2, eV, eC, h3, Option.bind_some, gIs, oD, isN]
      rfl
    simp only [eIf, t, Option.bind_some, if_true]
    rw [lit_empty, js_cons (y := [111, 117, 116]) (e1_i (x := sD [111, 117, 116]) rfl (fmt_str (by decide))) (by decide), js_cons (y := [32]) rfl (by decide), js_cons (y := TL.numL i) e2' (by simp only [List.length_append, List.length_cons, List.length_nil]; omega), js_nil]
    rfl
  | some l =>
    obtain ⟨h0, hl⟩ := ho l rfl
    have c := num_len (toNat_small h0 hl)
    have t : eTst (e2 (gIs false) (eV 3) (eC .non)) ρ μ = some false := by
      simp only [eTst, e2, eV, eC, h3, Option.bind_some, gIs, oD, isN]
      rfl
    have e3' : e1 gFmt (eV 3) ρ μ = some (sD (TL.numL l.toNat)) := e1_i (x := .int l) h3 (fmt_int (μ := μ) h0 hl)
    simp only [eIf, t, Option.bind_some, if_false, Bool.false_eq_true]
    rw [lit_empty, js_cons (y := [108, 101, 110, 103, 116, 104]) (e1_i (x := sD [108, 101, 110, 103, 116, 104]) rfl (fmt_str (by decide))) (by decide), js_cons (y := [32]) rfl (by decide), js_cons (y := TL.numL i) e2' (by simp only [List.length_append, List.length_cons, List.length_nil]; omega),
      js_cons (y := [32]) rfl (by simp only [List.length_append, List.length_cons, List.length_nil]; omega), js_cons (y := TL.numL l.toNat) e3' (by simp only [List.length_append, List.length_cons, List.length_nil]; omega), js_nil]
    rfl
theorem sem_lines (C : Addr) (ds : List D) (μ : Mu) (kont : DK) (h : S_lines C ds μ kont) :
    bd_Watch_lines C { nx := fun _ μ' => GhV kont .non μ', rt := GhV kont } (startD N_Watch_lines ds) μ := by
  obtain ⟨p, q, W, rfl, hW, hC, hk⟩ := h
  unfold bd_Watch_lines
  have hhl := hW.hl
  have hdl := hW.dl
  have e0 : eStar (e1 (gFld C "_head") (eV 0)) (eCons (eC (.str "watch")) eNil) [some (.loc p), none, none, none, none, none] μ = some (W.hd ++ [sD wordL]) := by
    simp only [eStar, eCons, eNil, e1, eV, eC, slot, Option.bind_some, hW.head, items]
    rfl
  refine sSeq_i ⟨W.hd ++ [sD wordL], e0, ?_, fun r hr => sSeq_i ?_⟩
  · rw [List.length_append, List.length_singleton]
    omega
  have rp : p ≠ r := fun z => by
    subst z
    rw [hW.mp] at hr
    cases hr
  have rq : q ≠ r := fun z => by
    subst z
    rw [hW.mq] at hr
    cases hr
  have x1 : Ext μ (updM μ r (.lst (W.hd ++ [sD wordL]))) := Ext.new (Ext.refl _) hr
  refine ⟨.loc q, (hW.ext x1).done, W.dn.map (chgD W.n), items_loc (x1 _ _ hW.mq), ?_⟩
  refine forL_ix (fun i ρ μ' => (∃ r2 r3 r4 r5, ρ = [some (.loc p), some (.loc r), r2, r3, r4, r5]) ∧ μ' = updM μ r (.lst (W.hd ++ [sD wordL] ++ (W.dn.take i).map fun c => sD (chgL c.i c.o))))
    (fun i ρ μ' hQ => by
      rw [hQ.2]
      show updM μ r _ q = _
      rw [updM_ne rq]
      exact hW.mq) (fun i y ρ μ' N' hy hQ hN => ?_) (fun ρ μ' hQ => ?_) ⟨⟨none, none, none, none, rfl⟩, by rw [List.take_zero, List.map_nil, List.append_nil]⟩
  · obtain ⟨⟨r2, r3, r4, r5, rfl⟩, rfl⟩ := hQ
    rw [List.getElem?_map] at hy
    cases hc : W.dn[i]? with
    | none => rw [hc] at hy; cases hy
    | some c =>
      rw [hc] at hy
      cases hy
      obtain ⟨hc1, hc2⟩ := hC c (List.mem_of_getElem? hc)
      have hil : i < W.dn.length := (List.getElem?_eq_some_iff.mp hc).1
      refine ⟨[.int c.i, oD c.o, .int c.c, .tup [tsD c.ts, tbD W.n c.ts]], rfl, rfl, rfl, sGh_i ?_⟩
      refine ⟨.loc r, rfl, ⟨_, itemsL_loc updM_same⟩, [sD (chgL c.i c.o)], ?_, lstAt_i updM_same ⟨?_, ?_⟩⟩
      · have := chg_text (μ := updM μ r (.lst (W.hd ++ [sD wordL] ++ (W.dn.take i).map fun c => sD (chgL c.i c.o)))) (ρ := [some (.loc p), some (.loc r), some (.int c.i), some (oD c.o), some (.int c.c), some (.tup [tsD c.ts, tbD W.n c.ts])]) hc1 hc2 rfl rfl
        show eCons _ eNil [some (.loc p), some (.loc r), some (.int c.i), some (oD c.o), some (.int c.c), some (.tup [tsD c.ts, tbD W.n c.ts])] _ = _
        simp only [eCons, eNil, this, Option.bind_some]
      · simp only [List.length_append, List.length_map, List.length_take, List.length_singleton]
        omega
      · refine GhS.done (hN _ _ ⟨⟨_, _, _, _, rfl⟩, ?_⟩)
        rw [updM_twice, List.take_succ_eq_append_getElem hil, (List.getElem?_eq_some_iff.mp hc).2, List.map_append, ← List.append_assoc]
        rfl
  · obtain ⟨⟨r2, r3, r4, r5, rfl⟩, rfl⟩ := hQ
    rw [List.length_map, List.take_length]
    refine ⟨.loc r, rfl, GhV.frz r _ updM_same ?_⟩
    have e1' : sbL r (W.hd ++ [sD wordL] ++ W.dn.map fun c => sD (chgL c.i c.o)) (.loc r) = .lst (W.hd ++ [sD wordL] ++ W.dn.map fun c => sD (chgL c.i c.o)) := by
      simp only [sbL, if_true]
    rw [e1']
    exact GhV.drop μ (Ext.del (Ext.new (Ext.refl _) hr) hr) (GhV.done hk)
end K60
end

section
set_option maxRecDepth 100000
/-! S14: texts are read. -/
namespace K60
open PySem PySem.Spec PyProof.Rows L2 DL Wl
section
variable {a b : EvT} {e : EvE} {ts : EvA} {ρ : Ro} {μ : Mu} {c : Bool} {d x : D}
theorem or_f (h1 : a ρ μ = some false) (h2 : b ρ μ = some c) : eOrT a b ρ μ = some c := by simp only [eOrT, h1, h2, Option.bind_some, Bool.false_eq_true, if_false]
theorem or_t (h1 : a ρ μ = some true) : eOrT a b ρ μ = some true := by simp only [eOrT, h1, Option.bind_some, if_true]
theorem and_t (h1 : a ρ μ = some true) (h2 : b ρ μ = some c) : eAndT a b ρ μ = some c := by simp only [eAndT, h1, h2, Option.bind_some, if_true]
theorem and_f (h1 : a ρ μ = some false) : eAndT a b ρ μ = some false := by simp only [eAndT, h1, Option.bind_some, Bool.false_eq_true, if_false]
theorem not_i (h1 : a ρ μ = some c) : eNotT a ρ μ = some (!c) := by simp only [eNotT, h1, Option.bind_some]
theorem tst_i (h1 : e ρ μ = some (.bl c)) : eTst e ρ μ = some c := by simp only [eTst, h1, Option.bind_some]
theorem eN_i {g : Mu → List D → Option D} {ds : List D} (h1 : ts ρ μ = some ds) (h2 : g μ ds = some d) : eN g ts ρ μ = some d := by simp only [eN, h1, h2, Option.bind_some]
theorem eFn_i {g : Mu → List D → Option D} {dvs ds : List D} {m : Nat} (h1 : ts ρ μ = some ds) (hl : (ds ++ dvs).length = m) (h2 : g μ (ds ++ dvs) = some d) : eFn g dvs m ts ρ μ = some d := eN_i h1 (by rw [if_pos hl, h2])
theorem c_nil : eNil ρ μ = some [] := rfl
theorem c_cons {ds : List D} (h1 : e ρ μ = some d) (h2 : ts ρ μ = some ds) : eCons e ts ρ μ = some (d :: ds) := by simp only [eCons, h1, h2, Option.bind_some]
theorem if_ti {u : EvE} (h1 : a ρ μ = some true) (h2 : e ρ μ = some d) : eIf a e u ρ μ = some d := by simp only [eIf, h1, h2, Option.bind_some, if_true]
theorem if_fi {u : EvE} (h1 : a ρ μ = some false) (h2 : u ρ μ = some d) : eIf a e u ρ μ = some d := by simp only [eIf, h1, h2, Option.bind_some, Bool.false_eq_true, if_false]
theorem eq_str {l m : Ln} {neg : Bool} : gEq neg μ (sD l) (sD m) = some (.bl (decide (l = m) != neg)) := by
  have : decide (SX.S l = SX.S m) = decide (l = m) := by
    by_cases h : l = m
    · subst h
      simp
    · have : ¬ SX.S l = SX.S m := fun q => h (SX.S_inj q)
      simp [h, this]
  simp only [gEq, eqB, sD, this]
theorem eq_int {i j : Int} {neg : Bool} : gEq neg μ (.int i) (.int j) = some (.bl (decide (i = j) != neg)) := rfl
theorem z_par {i j : Nat} {y : D} (h : ts ρ μ = some [x, y]) : zPar i j ts ρ μ = some (.nx (setS (setS ρ i (some x)) j (some y))) := by simp only [zPar, h]
end
theorem num_head (n : Nat) (h : 0 < n) : ∃ c r, TL.numL n = c :: r ∧ c ≠ 48 := by
  induction n using Nat.strongRecOn with
  | _ n ih =>
    by_cases h1 : n < 10
    · exact ⟨48 + n, [], TL.numL_lt h1, by omega⟩
    · obtain ⟨c, r, h2, h3⟩ := ih (n / 10) (by omega) (by omega)
      exact ⟨c, r ++ [48 + n % 10], by rw [TL.numL_step (by omega), h2]; rfl, h3⟩
theorem digit_in : ∀ c : Nat, 48 ≤ c → c ≤ 57 → decide (c ∈ (Str.ofString "0123456789").cps.toList) = true := fun c h1 h2 => by
  have : c ∈ [48, 49, 50, 51, 52, 53, 54, 55, 56, 57] := by
    simp only [List.mem_cons, List.not_mem_nil, or_false]
    omega
  exact decide_eq_true this
section
variable {μ : Mu}
theorem count_in_num {n most : Nat} (hn : n < 10 ^ 100) (hl : (TL.numL n).length ≤ most) : G_count_in μ [sD (TL.numL n), .int most] = some (.int n) := by
  have hlen := num_len hn
  have hpos : 1 ≤ (TL.numL n).length := List.length_pos_iff.mpr (TL.numL_ne n)
  have hS : (SX.S (TL.numL n)).length ≤ 1000000 := by rw [SX.S_len]; omega
  have e0 : eN gLen (eCons (eV 0) eNil) [some (sD (TL.numL n)), some (.int most), none] μ = some (.int (TL.numL n).length) := by
    refine eN_i (c_cons (d := sD (TL.numL n)) rfl c_nil) ?_
    simp only [gLen, sD, hS, if_true]
    rw [SX.S_len]
  have t1 : eTst (eChain gLe gLe (eC (.int 1)) (eN gLen (eCons (eV 0) eNil)) (eV 1)) [some (sD (TL.numL n)), some (.int most), none] μ = some true := by
    refine tst_i ?_
    have h1 : gLe μ (.int 1) (.int (TL.numL n).length) = some (.bl true) := by
      simp only [gLe]
      rw [decide_eq_true (by omega)]
    have h2 : gLe μ (.int (TL.numL n).length) (.int most) = some (.bl true) := by
      simp only [gLe]
      rw [decide_eq_true (by omega)]
    simp only [eChain, eC, e0, eV, slot, Option.bind_some, h1, h2, if_true]
  have k1 : lcGo (egName 2) eYes (e2 (gIn false) (eV 2) (eC (.str "0123456789"))) [some (sD (TL.numL n)), some (.int most), none] μ ((TL.numL n).map fun c => sD [c]) = some ((TL.numL n).map fun _ => D.bl true) := by
    refine lcGo_map (fun c => sD [c]) (fun _ => .bl true) _ fun c hc => ⟨[some (sD (TL.numL n)), some (.int most), some (sD [c])], rfl, rfl, ?_⟩
    have hd := TL.numL_digits n c hc
    refine e2_i (x := sD [c]) rfl rfl ?_
    have h1 : inB μ (sD [c]) (.str "0123456789") = some true := by
      have h2 : (SX.S [c] : Str) = ⟨#[(SX.S [c]).cps.getD 0 0]⟩ := rfl
      show (if (SX.S [c] : Str) = ⟨#[(SX.S [c]).cps.getD 0 0]⟩ then some (decide ((SX.S [c]).cps.getD 0 0 ∈ (Str.ofString "0123456789").cps.toList)) else none) = _
      rw [if_pos h2]
      exact congrArg some (digit_in c hd.1 hd.2)
    simp only [gIn, h1]
    rfl
  have t2 : eTst (eN (gBls fun bs => bs.all id) (eCons (eLc (ipSeq (eV 0)) (egName 2) eYes (e2 (gIn false) (eV 2) (eC (.str "0123456789"))) [2]) eNil)) [some (sD (TL.numL n)), some (.int most), none] μ = some true := by
    refine tst_i (eN_i (c_cons (d := .lst ((TL.numL n).map fun _ => D.bl true)) ?_ c_nil) ?_)
    · have h1 : ipSeq (eV 0) [some (sD (TL.numL n)), some (.int most), none] μ = some ((TL.numL n).map fun c => sD [c]) := rfl
      have h2 : ((TL.numL n).map fun c => sD [c]).length ≤ 100000 := by rw [List.length_map]; omega
      simp only [eLc, h1, Option.bind_some, h2, if_true, unsetAll, setS, k1]
    · simp only [gBls, itemsL, boolsT, allT]
  have hi : gInt μ [sD (TL.numL n)] = some (.int n) := by
    have h1 : (SX.S (TL.numL n)).length ≤ 640 := by rw [SX.S_len]; omega
    have h2 : intText? (SX.S (TL.numL n)) = some (n : Int) := by
      rw [← SX.num_S]
      exact TL.int_num (by omega)
    simp only [gInt, sD, h1, if_true, h2]
  have tz : eOrT (eTst (e2 (gEq false) (eV 0) (eC (.str "0")))) (eTst (e2 (gEq true) (e2 gIx (eV 0) (eC (.int 0))) (eC (.str "0")))) [some (sD (TL.numL n)), some (.int most), none] μ = some true := by
    by_cases h0 : n = 0
    · subst h0
      refine or_t (tst_i (e2_i (x := sD [48]) rfl (y := sD [48]) rfl ?_))
      rw [eq_str]
      rfl
    · obtain ⟨c, r, h1, h2⟩ := num_head n (by omega)
      have hix : e2 gIx (eV 0) (eC (.int 0)) [some (sD (TL.numL n)), some (.int most), none] μ = some (sD [c]) := by
        refine e2_i (x := sD (TL.numL n)) rfl rfl ?_
        rw [h1] at hS ⊢
        simp only [gIx, sD, hS, if_true]
        show (match atI (c :: r) 0 with | some c => some (D.str ⟨#[c]⟩) | none => none) = _
        rw [atI0]
      have h3 : eTst (e2 (gEq true) (e2 gIx (eV 0) (eC (.int 0))) (eC (.str "0"))) [some (sD (TL.numL n)), some (.int most), none] μ = some true := by
        refine tst_i (e2_i hix (y := sD [48]) rfl ?_)
        rw [eq_str, decide_eq_false (by simpa using h2)]
        rfl
      by_cases h4 : TL.numL n = [48]
      · refine or_t (tst_i (e2_i (x := sD (TL.numL n)) rfl (y := sD [48]) rfl ?_))
        rw [eq_str, decide_eq_true h4]
        rfl
      · refine or_f (tst_i (e2_i (x := sD (TL.numL n)) rfl (y := sD [48]) rfl ?_)) h3
        rw [eq_str, decide_eq_false h4]
        rfl
  exact g_ret (z_seq (z_iff (or_f (not_i t1) (not_i t2)) rfl) (z_ret (if_ti tz (eN_i (c_cons (d := sD (TL.numL n)) rfl c_nil) hi))))
def G_tie_in : Mu → List D → Option D := gOf N_tie_in (ev_tie_in G_count_in)
def G_read_map : Mu → List D → Option D := gOf N_read_map (ev_read_map G_count_in G_is_map G_map_of G_tie_in)
def G_change_in : Mu → List D → Option D := gOf N_change_in (ev_change_in G_count_in)
theorem len_lst {xs : List D} : gLen μ [.lst xs] = some (.int xs.length) := rfl
theorem split_sp {ws : List Ln} (hne : ws ≠ []) (hf : ∀ w ∈ ws, 32 ∉ w) (hl : (TL.joinL [32] ws).length ≤ 1000000) : gSplit μ (sD (TL.joinL [32] ws)) (.str " ") = some (.lst (ws.map sD)) := by
  have h2 : (SX.S (TL.joinL [32] ws)).length ≤ 1000000 := by
    rw [SX.S_len]
    exact hl
  have h3 : ((Str.ofString " ").length ≠ 0) := by decide
  show (if (Str.ofString " ").length ≠ 0 ∧ (SX.S (TL.joinL [32] ws)).length ≤ 1000000 then some (D.lst ((Txt.split (SX.S (TL.joinL [32] ws)) (Str.ofString " ")).map .str)) else none) = _
  rw [if_pos ⟨h3, h2⟩, lit_sp, split_join_S (by decide) hne hf, List.map_map]
  rfl
theorem tie_words (e : Edge) : tieL e = TL.joinL [32] [[116, 105, 101], TL.numL e.1, TL.numL e.2.1, TL.numL e.2.2.toNat] := by
  unfold tieL
  simp [TL.joinL]
theorem non_in_flat {xs : List D} (h : xs.all flatD = true) (h2 : xs.any (fun z => eqFl z .non) = false) : gIn false μ .non (.tup xs) = some (.bl false) := by
  have : inB μ .non (.tup xs) = some false := by
    simp only [inB, items, flatD, h, and_self, if_true, h2]
  simp only [gIn, this]
  rfl
theorem tie_in_eq {e : Edge} (h1 : e.1 < 20) (h2 : e.2.1 < 20) (h0 : 0 ≤ e.2.2) (h3 : e.2.2 < 10 ^ 100) : G_tie_in μ [sD (tieL e)] = some (edgeD e) := by
  obtain ⟨u, v, l⟩ := e
  have ht := toNat_small h0 h3
  have hs : gSplit μ (sD (tieL (u, v, l))) (.str " ") = some (.lst ([[116, 105, 101], TL.numL u, TL.numL v, TL.numL l.toNat].map sD)) := by
    rw [tie_words]
    refine split_sp (by simp) (fun w hw => ?_) ?_
    · simp only [List.mem_cons, List.not_mem_nil, or_false] at hw
      rcases hw with rfl | rfl | rfl | rfl
      · decide
      · exact TL.numL_free (.inl (by decide))
      · exact TL.numL_free (.inl (by decide))
      · exact TL.numL_free (.inl (by decide))
    · have := tie_len (e := (u, v, l)) (show u ≤ 120 by simp only at h1; omega) (show v ≤ 120 by simp only at h2; omega) ht
      rw [tie_words] at this
      exact Nat.le_trans this (by decide)
  have cu : G_count_in μ [sD (TL.numL u), .int 2] = some (.int u) := count_in_num (most := 2) (small20 (by simp only at h1; omega)) (TL.numL_len (by decide) (by simp only at h1; omega))
  have cv : G_count_in μ [sD (TL.numL v), .int 2] = some (.int v) := count_in_num (most := 2) (small20 (by simp only at h2; omega)) (TL.numL_len (by decide) (by simp only at h2; omega))
  have cl : G_count_in μ [sD (TL.numL l.toNat), .int 1000] = some (.int l) := by
    have := count_in_num (μ := μ) (most := 1000) ht (Nat.le_trans (num_len ht) (by decide))
    have e : ((l.toNat : Nat) : Int) = l := Int.toNat_of_nonneg h0
    rw [e] at this
    exact this
  refine g_ret (z_seq (z_asg (x := .lst ([[116, 105, 101], TL.numL u, TL.numL v, TL.numL l.toNat].map sD)) (e2_i (x := sD (tieL (u, v, l))) rfl rfl hs) (ρ' := [some (sD (tieL (u, v, l))), some (.lst ([[116, 105, 101], TL.numL u, TL.numL v, TL.numL l.toNat].map sD)), none]) rfl) ?_)
  have ix : ∀ (j : Nat) (w : Ln), [[116, 105, 101], TL.numL u, TL.numL v, TL.numL l.toNat][j]? = some w → e2 gIx (eV 1) (eC (.int j)) [some (sD (tieL (u, v, l))), some (.lst ([[116, 105, 101], TL.numL u, TL.numL v, TL.numL l.toNat].map sD)), none] μ = some (sD w) := fun j w hw => by
    refine e2_i (x := .lst ([[116, 105, 101], TL.numL u, TL.numL v, TL.numL l.toNat].map sD)) rfl rfl (ix_lst ?_)
    rw [List.getElem?_map, hw]
    rfl
  refine z_seq (z_iff (or_f (tst_i (e2_i (eN_i (c_cons (d := .lst ([[116, 105, 101], TL.numL u, TL.numL v, TL.numL l.toNat].map sD)) rfl c_nil) len_lst) rfl ?_)) (tst_i (e2_i (ix 0 _ rfl) (y := sD [116, 105, 101]) rfl ?_))) rfl) ?_
  · rw [eq_int]
    rfl
  · rw [eq_str]
    rfl
  refine z_seq (z_asg (x := edgeD (u, v, l)) ?_ (ρ' := [some (sD (tieL (u, v, l))), some (.lst ([[116, 105, 101], TL.numL u, TL.numL v, TL.numL l.toNat].map sD)), some (edgeD (u, v, l))]) rfl) ?_
  · refine eN_i (c_cons (eFn_i (c_cons (ix 1 _ rfl) (c_cons (d := .int 2) rfl c_nil)) rfl cu) (c_cons (eFn_i (c_cons (ix 2 _ rfl) (c_cons (d := .int 2) rfl c_nil)) rfl cv) (c_cons (eFn_i (c_cons (ix 3 _ rfl) c_nil) rfl cl) c_nil))) ?_
    rfl
  · refine z_ret (if_fi (tst_i (e2_i (x := .non) rfl (y := edgeD (u, v, l)) rfl (non_in_flat rfl rfl))) rfl)
end
end K60
end

section
set_option maxRecDepth 100000
/-! S15: a map is read, a change is read, a watch is read. -/
namespace K60
open PySem PySem.Spec PyProof.Rows L2 DL Wl
theorem z_seq_ret {a b : EvS} {ρ : Ro} {μ : Mu} {d : D} (h : a ρ μ = some (.ret d)) : zSeq a b ρ μ = some (.ret d) := by simp only [zSeq, h]
section
variable {μ : Mu}
def eP (e : Edge) : PyData := .tuple [.int e.1, .int e.2.1, .int e.2.2]
theorem pyFs_edges : ∀ E : List Edge, pyFs (E.map edgeD) = some (E.map eP)
  | [] => rfl
  | e :: r => by
    rw [List.map_cons]
    simp only [pyFs, pyFs_edges r]
    rfl
theorem dk_edge (e : Edge) : Dk 1 (edgeD e) := dk_tie (e.1, e.2.1, some e.2.2)
theorem non_in_edges (E : List Edge) : gIn false μ .non (.lst (E.map edgeD)) = some (.bl false) := by
  have h : inB μ .non (.lst (E.map edgeD)) = some false := by
    cases E with
    | nil => rfl
    | cons e r =>
      have h1 : ¬ (flatD .non = true ∧ ((e :: r).map edgeD).all flatD = true) := fun q => by
        have := q.2
        rw [List.map_cons, List.all_cons] at this
        cases this
      obtain ⟨es, h2, h3, h4, h5⟩ := Dk.all (xs := (e :: r).map edgeD) (k := 1) fun x hx => by
        obtain ⟨e, _, rfl⟩ := List.mem_map.mp hx
        exact dk_edge e
      rw [pyFs_edges] at h2
      have h2 := Option.some.inj h2
      subst h2
      have e1 : pyOf μ (.lst ((e :: r).map edgeD)) = some (.list ((e :: r).map eP)) := by
        show pyF _ = _
        simp only [pyF, pyFs_edges]
      have sh : SeqAt.shaped (.list ((e :: r).map eP)) = true := by
        have h6 : (PyData.list ((e :: r).map eP)).canLay0 = true := by simp only [PyData.canLay0, h3]
        have h7 : (PyData.list ((e :: r).map eP)).depth ≤ 64 := by
          simp only [PyData.depth]
          omega
        unfold SeqAt.shaped
        rw [h6, Bool.true_and]
        exact decide_eq_true h7
      have e0 : pyOf μ .non = some .none := rfl
      have sn : SeqAt.shaped .none = true := by decide
      have an : (((e :: r).map eP).any fun z => PyData.eqv z .none) = false := by
        rw [List.any_eq_false]
        intro z hz
        obtain ⟨e, _, rfl⟩ := List.mem_map.mp hz
        simp [eP, PyData.eqv]
      simp only [inB, items, if_neg h1, e0, e1]
      rw [if_pos ⟨sn, sh⟩, an]
  simp only [gIn, h]
  rfl
theorem head_words (n : Nat) : headL n = TL.joinL [32] [[112, 108, 97, 99, 101, 115], TL.numL n] := by
  unfold headL
  simp [TL.joinL]
theorem read_map_eq {n : Nat} {E : List Edge} (h : Mt n E) : G_read_map μ [sD (TL.joinL [10] (mapL n E))] = some (roadsD n E) := by
  have hn := h.map.n2
  have hm := h.map.m
  have hsp : gSplit μ (sD (headL n)) (.str " ") = some (.lst ([[112, 108, 97, 99, 101, 115], TL.numL n].map sD)) := by
    rw [head_words]
    refine split_sp (by simp) (fun w hw => ?_) ?_
    · simp only [List.mem_cons, List.not_mem_nil, or_false] at hw
      rcases hw with rfl | rfl
      · decide
      · exact TL.numL_free (.inl (by decide))
    · have := head_len (n := n) (by omega)
      rw [head_words] at this
      exact Nat.le_trans this (by decide)
  have cn : G_count_in μ [sD (TL.numL n), .int 2] = some (.int n) := count_in_num (most := 2) (small20 (by omega)) (TL.numL_len (by decide) (by omega))
  refine g_ret (z_seq (z_iff (not_i (tst_i (e1_i (x := sD (TL.joinL [10] (mapL n E))) rfl (isi_str (cs := ["str"]) (b := true) kit_str_str)))) rfl) ?_)
  refine z_seq (z_asg (x := .lst ((mapL n E).map sD)) (e2_i (x := sD (TL.joinL [10] (mapL n E))) rfl rfl (split_map h)) (ρ' := [some (sD (TL.joinL [10] (mapL n E))), none, some (sD (headL n)), none, none, some (.lst (E.map fun e => sD (tieL e))), none]) ?_) ?_
  · have h1 : ((mapL n E).map sD).length = E.length + 1 := by rw [List.length_map, mapL_len]
    have h2 : ((mapL n E).map sD).take 1 = [sD (headL n)] := rfl
    have h3 : ((mapL n E).map sD).drop 1 = E.map fun e => sD (tieL e) := by
      unfold mapL
      rw [List.map_cons, List.map_map]
      rfl
    have h4 : (E.map fun e => sD (tieL e)).take (E.length + 1 + 1 - 2) = E.map fun e => sD (tieL e) := List.take_of_length_le (by rw [List.length_map]; omega)
    have h5 : (E.map fun e => sD (tieL e)).drop (E.length + 1 + 1 - 2) = [] := List.drop_of_length_le (by rw [List.length_map]; omega)
    have h6 : 1 < 2 ∧ 2 ≤ E.length + 1 + 1 ∧ E.length + 1 ≤ 16000 := by omega
    simp only [egStar, itemsL, h1, h6, and_self, if_true, h2, h3, h4, h5]
    rfl
  have kt : lcGo (egName 6) eYes (eFn G_tie_in [] 1 (eCons (eV 6) eNil)) [some (sD (TL.joinL [10] (mapL n E))), none, some (sD (headL n)), none, none, some (.lst (E.map fun e => sD (tieL e))), none] μ (E.map fun e => sD (tieL e)) = some (E.map edgeD) := by
    refine lcGo_map (fun e => sD (tieL e)) edgeD _ fun e he => ⟨[some (sD (TL.joinL [10] (mapL n E))), none, some (sD (headL n)), none, none, some (.lst (E.map fun e => sD (tieL e))), some (sD (tieL e))], rfl, rfl, ?_⟩
    obtain ⟨u, v, l⟩ := e
    obtain ⟨w1, w2, w3⟩ := h.map.wf _ _ _ he
    exact eFn_i (c_cons (d := sD (tieL (u, v, l))) rfl c_nil) rfl (tie_in_eq (show u < 20 by omega) (show v < 20 by omega) w3 (h.sh _ _ _ he))
  have hl : E.length ≤ 100000 := by omega
  refine z_seq (z_par (x := .lst ([[112, 108, 97, 99, 101, 115], TL.numL n].map sD)) (y := .lst (E.map edgeD)) (c_cons (e2_i (x := sD (headL n)) rfl rfl hsp) (c_cons ?_ c_nil))) ?_
  · simp only [eLc, ipSeq, eV, slot, seqI, items, Option.bind_some, List.length_map, hl, if_true, unsetAll, setS, kt]
  have e3 : ∀ (j : Nat) (w : Ln), [[112, 108, 97, 99, 101, 115], TL.numL n][j]? = some w → e2 gIx (eV 3) (eC (.int j)) [some (sD (TL.joinL [10] (mapL n E))), none, some (sD (headL n)), some (.lst ([[112, 108, 97, 99, 101, 115], TL.numL n].map sD)), some (.lst (E.map edgeD)), some (.lst (E.map fun e => sD (tieL e))), none] μ = some (sD w) := fun j w hw => by
    refine e2_i (x := .lst ([[112, 108, 97, 99, 101, 115], TL.numL n].map sD)) rfl rfl (ix_lst ?_)
    rw [List.getElem?_map, hw]
    rfl
  refine z_seq (z_iff (or_f (tst_i (e2_i (eN_i (c_cons (d := .lst ([[112, 108, 97, 99, 101, 115], TL.numL n].map sD)) rfl c_nil) len_lst) rfl ?_)) (or_f (tst_i (e2_i (e3 0 _ rfl) (y := sD [112, 108, 97, 99, 101, 115]) rfl ?_)) (tst_i (e2_i (x := .non) rfl (y := .lst (E.map edgeD)) rfl (non_in_edges E))))) rfl) ?_
  · rw [eq_int]
    rfl
  · rw [eq_str]
    rfl
  have hmo := map_of_edges (μ := μ) (x := .lst (E.map edgeD)) (n := (n : Int)) (E := E) rfl hl
  rw [sortE_of h.map.srt] at hmo
  refine z_seq (z_asg (x := roadsD n E) (eFn_i (c_cons (eFn_i (c_cons (e3 1 _ rfl) (c_cons (d := .int 2) rfl c_nil)) rfl cn) (c_cons (d := .lst (E.map edgeD)) rfl c_nil)) rfl hmo) rfl) ?_
  refine z_seq (z_iff (not_i (tst_i (eFn_i (c_cons (d := roadsD n E) rfl c_nil) rfl (is_map_roads h.map)))) rfl) (z_ret rfl)
theorem change_in_eq {i : Nat} {o : Option Int} (hi : i < 120) (ho : ∀ l, o = some l → 0 ≤ l ∧ l < 10 ^ 100) : G_change_in μ [sD (chgL i o)] = some (.tup [.int i, oD o]) := by
  have ci : G_count_in μ [sD (TL.numL i), .int 3] = some (.int i) := count_in_num (most := 3) (small20 (by omega)) (TL.numL_len (by decide) (by omega))
  have hli := num_len (small20 (by omega : i ≤ 120))
  cases o with
  | none =>
    have hw : chgL i none = TL.joinL [32] [[111, 117, 116], TL.numL i] := by
      unfold chgL
      simp [TL.joinL]
    have hs : gSplit μ (sD (chgL i none)) (.str " ") = some (.lst ([[111, 117, 116], TL.numL i].map sD)) := by
      rw [hw]
      refine split_sp (by simp) (fun w hw => ?_) ?_
      · simp only [List.mem_cons, List.not_mem_nil, or_false] at hw
        rcases hw with rfl | rfl
        · decide
        · exact TL.numL_free (.inl (by decide))
      · rw [← hw]
        unfold chgL
        simp only [List.length_append, List.length_cons, List.length_nil]
        omega
    refine g_ret (z_seq (z_asg (e2_i (x := sD (chgL i none)) rfl rfl hs) (ρ' := [some (sD (chgL i none)), some (sD [111, 117, 116]), some (.lst [sD (TL.numL i)])]) rfl) ?_)
    have e0 : e2 gIx (eV 2) (eC (.int 0)) [some (sD (chgL i none)), some (sD [111, 117, 116]), some (.lst [sD (TL.numL i)])] μ = some (sD (TL.numL i)) := e2_i (x := .lst [sD (TL.numL i)]) rfl rfl (ix_lst (j := 0) rfl)
    refine z_seq_ret (z_ift (and_t (tst_i (e2_i (x := sD [111, 117, 116]) rfl (y := sD [111, 117, 116]) rfl ?_)) (tst_i (e2_i (eN_i (c_cons (d := .lst [sD (TL.numL i)]) rfl c_nil) len_lst) rfl eq_int))) (z_ret (eN_i (c_cons (eFn_i (c_cons e0 (c_cons (d := .int 3) rfl c_nil)) rfl ci) (c_cons (d := .non) rfl c_nil)) rfl)))
    rw [eq_str]
    rfl
  | some l =>
    obtain ⟨h0, hl⟩ := ho l rfl
    have ht := toNat_small h0 hl
    have hll := num_len ht
    have cl : G_count_in μ [sD (TL.numL l.toNat), .int 1000] = some (.int l) := by
      have := count_in_num (μ := μ) (most := 1000) ht (Nat.le_trans hll (by decide))
      have e : ((l.toNat : Nat) : Int) = l := Int.toNat_of_nonneg h0
      rw [e] at this
      exact this
    have hw : chgL i (some l) = TL.joinL [32] [[108, 101, 110, 103, 116, 104], TL.numL i, TL.numL l.toNat] := by
      unfold chgL
      simp [TL.joinL]
    have hs : gSplit μ (sD (chgL i (some l))) (.str " ") = some (.lst ([[108, 101, 110, 103, 116, 104], TL.numL i, TL.numL l.toNat].map sD)) := by
      rw [hw]
      refine split_sp (by simp) (fun w hw => ?_) ?_
      · simp only [List.mem_cons, List.not_mem_nil, or_false] at hw
        rcases hw with rfl | rfl | rfl
        · decide
        · exact TL.numL_free (.inl (by decide))
        · exact TL.numL_free (.inl (by decide))
      · rw [← hw]
        unfold chgL
        simp only [List.length_append, List.length_cons, List.length_nil]
        omega
    refine g_ret (z_seq (z_asg (e2_i (x := sD (chgL i (some l))) rfl rfl hs) (ρ' := [some (sD (chgL i (some l))), some (sD [108, 101, 110, 103, 116, 104]), some (.lst [sD (TL.numL i), sD (TL.numL l.toNat)])]) rfl) ?_)
    have e0 : e2 gIx (eV 2) (eC (.int 0)) [some (sD (chgL i (some l))), some (sD [108, 101, 110, 103, 116, 104]), some (.lst [sD (TL.numL i), sD (TL.numL l.toNat)])] μ = some (sD (TL.numL i)) := e2_i (x := .lst [sD (TL.numL i), sD (TL.numL l.toNat)]) rfl rfl (ix_lst (j := 0) rfl)
    have e1' : e2 gIx (eV 2) (eC (.int 1)) [some (sD (chgL i (some l))), some (sD [108, 101, 110, 103, 116, 104]), some (.lst [sD (TL.numL i), sD (TL.numL l.toNat)])] μ = some (sD (TL.numL l.toNat)) := e2_i (x := .lst [sD (TL.numL i), sD (TL.numL l.toNat)]) rfl rfl (ix_lst (j := 1) rfl)
    have ec := eFn_i (g := G_count_in) (dvs := [.int 1000]) (m := 2) (c_cons e1' c_nil) rfl cl
    refine z_seq (z_iff (and_f (tst_i (e2_i (x := sD [108, 101, 110, 103, 116, 104]) rfl (y := sD [111, 117, 116]) rfl (by rw [eq_str]; rfl)))) rfl) ?_
    refine z_seq_ret (z_ift (and_t (tst_i (e2_i (x := sD [108, 101, 110, 103, 116, 104]) rfl (y := sD [108, 101, 110, 103, 116, 104]) rfl (by rw [eq_str]; rfl))) (and_t (tst_i (e2_i (eN_i (c_cons (d := .lst [sD (TL.numL i), sD (TL.numL l.toNat)]) rfl c_nil) len_lst) rfl eq_int)) (tst_i (e2_i ec (y := .non) rfl (by rfl))))) (z_ret (eN_i (c_cons (eFn_i (c_cons e0 (c_cons (d := .int 3) rfl c_nil)) rfl ci) (c_cons ec c_nil)) rfl)))
end
end K60
end

section
set_option maxRecDepth 100000
/-! S16: a watch is read. -/
namespace K60
open PySem PySem.Spec PyProof.Rows L2 DL Wl
/-- the life of a watch by its changes -/
inductive Hist (W0 : WS) : List (Nat × Option Int) → WS → Prop
  | nil : Hist W0 [] W0
  | snoc {chs : List (Nat × Option Int)} {W : WS} {i a b : Nat} {o0 o : Option Int} {c : Int} : Hist W0 chs W → W.ts[i]? = some (a, b, o0) → Hist W0 (chs ++ [(i, o)]) (W.set i a b o c)
/-- the ties behind the changes -/
def tsAt (ts : List Ty) (chs : List (Nat × Option Int)) : List Ty := chs.foldl (fun ts c => match ts[c.1]? with
  | some t => ts.set c.1 (t.1, t.2.1, c.2)
  | none => ts) ts
section
variable {W0 W : WS} {chs : List (Nat × Option Int)}
theorem Hist.n (h : Hist W0 chs W) : W.n = W0.n := by
  induction h with
  | nil => rfl
  | snoc _ _ ih => exact ih
theorem Hist.hd (h : Hist W0 chs W) : W.hd = W0.hd := by
  induction h with
  | nil => rfl
  | snoc _ _ ih => exact ih
theorem Hist.len (h : Hist W0 chs W) : W.ts.length = W0.ts.length := by
  induction h with
  | nil => rfl
  | snoc _ _ ih =>
    show (List.set _ _ _).length = _
    rw [List.length_set]
    exact ih
theorem Hist.ts (h : Hist W0 chs W) : W.ts = tsAt W0.ts chs := by
  induction h with
  | nil => rfl
  | snoc h1 h2 ih =>
    unfold tsAt at ih ⊢
    rw [List.foldl_append, ← ih]
    simp only [List.foldl_cons, List.foldl_nil, h2]
    rfl
theorem Hist.dn (h : Hist W0 chs W) : W.dn.map (fun c => (c.i, c.o)) = W0.dn.map (fun c => (c.i, c.o)) ++ chs := by
  induction h with
  | nil => rw [List.append_nil]
  | snoc h1 h2 ih =>
    show (_ ++ [_]).map _ = _
    rw [List.map_append, ih, List.append_assoc]
    rfl
theorem Hist.dnl (h : Hist W0 chs W) : W.dn.length = W0.dn.length + chs.length := by
  have := congrArg List.length h.dn
  rw [List.length_map, List.length_append, List.length_map] at this
  exact this
end
def Cc (m : Nat) (c : Nat × Option Int) : Prop := c.1 < m ∧ ∀ l, c.2 = some l → 0 ≤ l ∧ l < 10 ^ 100
def linesC (n : Nat) (E : List Edge) (chs : List (Nat × Option Int)) : List Ln := mapL n E ++ [wordL] ++ chs.map fun c => chgL c.1 c.2
def asc (l : Ln) : Prop := ∀ c ∈ l, c < 128
theorem asc_num (n : Nat) : asc (TL.numL n) := fun c hc => by
  have := TL.numL_digits n c hc
  omega
theorem asc_app {a b : Ln} (ha : asc a) (hb : asc b) : asc (a ++ b) := fun c hc => by
  rcases List.mem_append.mp hc with h | h
  · exact ha c h
  · exact hb c h
theorem asc_chg (i : Nat) (o : Option Int) : asc (chgL i o) := by
  have h1 : asc [111, 117, 116, 32] := by unfold asc; decide
  have h2 : asc [108, 101, 110, 103, 116, 104, 32] := by unfold asc; decide
  have h3 : asc [32] := by unfold asc; decide
  cases o with
  | none => exact asc_app h1 (asc_num _)
  | some l => exact asc_app (asc_app (asc_app h2 (asc_num _)) h3) (asc_num _)
theorem asc_tie (e : Edge) : asc (tieL e) := by
  have h1 : asc [116, 105, 101, 32] := by unfold asc; decide
  have h3 : asc [32] := by unfold asc; decide
  exact asc_app (asc_app (asc_app (asc_app (asc_app h1 (asc_num _)) h3) (asc_num _)) h3) (asc_num _)
theorem asc_map {n : Nat} {E : List Edge} : ∀ l ∈ mapL n E, asc l := fun l hl => by
  unfold mapL at hl
  rcases List.mem_cons.mp hl with rfl | hl
  · have h1 : asc [112, 108, 97, 99, 101, 115, 32] := by unfold asc; decide
    exact asc_app h1 (asc_num _)
  · obtain ⟨e, _, rfl⟩ := List.mem_map.mp hl
    exact asc_tie e
theorem asc_lines {n : Nat} {E : List Edge} {chs : List (Nat × Option Int)} : ∀ l ∈ linesC n E chs, asc l := fun l hl => by
  unfold linesC at hl
  rw [List.mem_append, List.mem_append] at hl
  rcases hl with (hl | hl) | hl
  · exact asc_map l hl
  · rw [List.mem_singleton] at hl
    subst hl
    unfold asc
    decide
  · obtain ⟨c, _, rfl⟩ := List.mem_map.mp hl
    exact asc_chg _ _
theorem dk_str {l : Ln} (h : asc l) : Dk 0 (sD l) := by
  refine ⟨.str (SX.S l), rfl, ?_, Nat.zero_le _⟩
  show (SX.S l).cps.all (· < 0x110000) = true
  rw [← Array.all_toList]
  rw [List.all_eq_true]
  intro c hc
  have := h c hc
  exact decide_eq_true (by omega)
section
variable {μ : Mu}
theorem lst_eq_self {xs : List D} {k : Nat} {neg : Bool} (h : ∀ x ∈ xs, Dk k x) (hk : k ≤ 60) : gEq neg μ (.lst xs) (.lst xs) = some (.bl (true != neg)) := by
  obtain ⟨es, h1, h2, h3, _⟩ := Dk.all h
  have e1 : pyOf μ (.lst xs) = some (.list es) := by
    show pyF _ = _
    simp only [pyF, h1]
  have h5 : (PyData.list es).canLay0 = true := by simp only [PyData.canLay0, h2]
  have sh : SeqAt.shaped (.list es) = true := by
    have h6 : (PyData.list es).depth ≤ 64 := by
      simp only [PyData.depth]
      omega
    unfold SeqAt.shaped
    rw [h5, Bool.true_and]
    exact decide_eq_true h6
  have e3 : eqB μ (.lst xs) (.lst xs) = some true := by
    simp only [eqB, e1]
    rw [if_pos ⟨sh, sh⟩, PySem.SeqAt.eqv_refl _ h5]
  simp only [gEq, e3]
theorem idx_at {w : Str} : ∀ (A B : List Str), (∀ p ∈ A, p ≠ w) → (A ++ w :: B).idxOf w = A.length
  | [], B, _ => by rw [List.nil_append, List.idxOf_cons_self]; rfl
  | a :: A, B, h => by
    have h1 : (a == w) = false := by
      cases hb : a == w with
      | false => rfl
      | true => exact absurd (eq_of_beq hb) (h a List.mem_cons_self)
    rw [List.cons_append, List.idxOf_cons, h1, idx_at A B fun p hp => h p (List.mem_cons_of_mem _ hp)]
    rfl
theorem map_not_word {n : Nat} {E : List Edge} : ∀ p ∈ mapL n E, p ≠ wordL := fun p hp q => by
  unfold mapL at hp
  rcases List.mem_cons.mp hp with rfl | hp
  · unfold headL wordL at q
    simp at q
  · obtain ⟨e, _, rfl⟩ := List.mem_map.mp hp
    unfold tieL wordL at q
    simp at q
theorem index_word {n : Nat} {E : List Edge} {chs : List (Nat × Option Int)} : gIndex μ (.lst ((linesC n E chs).map sD)) (.str "watch") = some (.int (E.length + 1 : Nat)) := by
  have e1 : (linesC n E chs).map sD = ((linesC n E chs).map SX.S).map .str := by
    rw [List.map_map]
    rfl
  have e2 : (linesC n E chs).map SX.S = (mapL n E).map SX.S ++ SX.S wordL :: (chs.map fun c => SX.S (chgL c.1 c.2)) := by
    unfold linesC
    rw [List.map_append, List.map_append, List.append_assoc, List.map_map]
    rfl
  have e3 : ((linesC n E chs).map SX.S).idxOf (SX.S wordL) = E.length + 1 := by
    rw [e2, idx_at _ _ fun p hp => ?_, List.length_map, mapL_len]
    obtain ⟨l, hl, rfl⟩ := List.mem_map.mp hp
    exact fun q => map_not_word l hl (SX.S_inj q)
  have e4 : SX.S wordL ∈ (linesC n E chs).map SX.S := by
    rw [e2]
    exact List.mem_append_right _ List.mem_cons_self
  show (match itemsL μ (.lst ((linesC n E chs).map sD)) with
    | some xs => match strsOf xs, D.str (SX.S wordL) with
      | some ss, .str z => if z ∈ ss then some (D.int (ss.idxOf z : Nat)) else none
      | _, _ => none
    | none => none) = _
  simp only [itemsL]
  rw [e1, strsOf_map]
  simp only [e4, if_true, e3]
theorem word_in {n : Nat} {E : List Edge} {chs : List (Nat × Option Int)} : gIn true μ (.str "watch") (.lst ((linesC n E chs).map sD)) = some (.bl false) := by
  have h1 : ((linesC n E chs).map sD).all flatD = true := by
    rw [List.all_eq_true]
    intro x hx
    obtain ⟨l, _, rfl⟩ := List.mem_map.mp hx
    rfl
  have h2 : (((linesC n E chs).map sD).any fun z => eqFl z (sD wordL)) = true := by
    rw [List.any_eq_true]
    refine ⟨sD wordL, List.mem_map.mpr ⟨wordL, ?_, rfl⟩, ?_⟩
    · unfold linesC
      exact List.mem_append_left _ (List.mem_append_right _ (List.mem_singleton.mpr rfl))
    · show (SX.S wordL == SX.S wordL) = true
      exact beq_self_eq_true _
  have h3 : inB μ (sD wordL) (.lst ((linesC n E chs).map sD)) = some true := by
    show (match items μ (.lst ((linesC n E chs).map sD)) with
      | some xs => if flatD (sD wordL) = true ∧ xs.all flatD = true then some (xs.any fun z => eqFl z (sD wordL)) else
        match pyOf μ (sD wordL), pyOf μ (.lst ((linesC n E chs).map sD)) with
        | some d, some (.list ds) => if SeqAt.shaped d = true ∧ SeqAt.shaped (.list ds) = true then some (ds.any fun z => PyData.eqv z d) else none
        | _, _ => none
      | none => none) = _
    simp only [items]
    rw [if_pos ⟨rfl, h1⟩, h2]
  show (match inB μ (sD wordL) (.lst ((linesC n E chs).map sD)) with
    | some b => some (D.bl (b != true))
    | none => none) = _
  rw [h3]
  rfl
end
def S_read_watch (C : Addr) : DC := fun ds μ k => ∃ n E chs, ds = [.lst ((linesC n E chs).map sD)] ∧ Mt n E ∧ (∀ c ∈ chs, Cc E.length c) ∧ chs.length ≤ 900 ∧ ∀ p q μ' W, Ext μ μ' → μ p = none → μ q = none → Wat C μ' p q W → Hist (newW n E) chs W → k (.loc p) μ'
theorem lines_of {n : Nat} {E : List Edge} {chs : List (Nat × Option Int)} {W : WS} (h : Hist (newW n E) chs W) : W.hd ++ [sD wordL] ++ W.dn.map (fun c => sD (chgL c.i c.o)) = (linesC n E chs).map sD := by
  have h1 : W.dn.map (fun c => sD (chgL c.i c.o)) = (chs.map fun c => chgL c.1 c.2).map sD := by
    have h2 := h.dn
    have h3 : W.dn.map (fun c => (c.i, c.o)) = chs := h2
    rw [← h3, List.map_map, List.map_map]
    rfl
  rw [h1, h.hd]
  unfold linesC
  rw [List.map_append, List.map_append]
  rfl
theorem dn_cs {n : Nat} {E : List Edge} {chs : List (Nat × Option Int)} {W : WS} (h : Hist (newW n E) chs W) (hc : ∀ c ∈ chs, Cc E.length c) (hm : E.length ≤ 120) : ∀ c ∈ W.dn, Cs c := fun c hcm => by
  have h3 : W.dn.map (fun c => (c.i, c.o)) = chs := h.dn
  have h4 : (c.i, c.o) ∈ chs := by
    rw [← h3]
    exact List.mem_map.mpr ⟨c, hcm, rfl⟩
  obtain ⟨h5, h6⟩ := hc _ h4
  exact ⟨Nat.lt_of_lt_of_le h5 hm, h6⟩
theorem get_ty {ts : List Ty} {i : Nat} (h : i < ts.length) : ∃ a b o, ts[i]? = some (a, b, o) := ⟨_, _, _, List.getElem?_eq_getElem h⟩
theorem if_no {P Q : Prop} (h : Q) : (if (false : Bool) = true then P else Q) := by
  rw [if_neg Bool.false_ne_true]
  exact h
theorem if_yes {P Q : Prop} (h : P) : (if (true : Bool) = true then P else Q) := by
  rw [if_pos rfl]
  exact h
theorem isl_lst {μ : Mu} {xs : List D} : G_is_list μ [.lst xs] = some (.bl true) := g_ret (z_ret (e1_i (x := .lst xs) rfl (isi_lst kit_list_list_tuple)))
theorem cut_to {α : Type} (xs : List α) {j : Nat} (h : j ≤ xs.length) : DL.cutD xs none (some (j : Int)) = xs.take j := by
  unfold DL.cutD
  rw [HT.sIx_none, HT.sIx_nat, Nat.min_eq_left h, List.drop_zero, Nat.sub_zero]
theorem cut_from {α : Type} (xs : List α) {j : Nat} (h : j ≤ xs.length) : DL.cutD xs (some (j : Int)) none = xs.drop j := by
  unfold DL.cutD
  rw [HT.sIx_none, HT.sIx_nat, Nat.min_eq_left h]
  exact List.take_of_length_le (by rw [List.length_drop]; exact Nat.le_refl _)
theorem lines_take {n : Nat} {E : List Edge} {chs : List (Nat × Option Int)} : ((linesC n E chs).map sD).take (E.length + 1) = (mapL n E).map sD := by
  unfold linesC
  rw [List.map_append, List.map_append, List.append_assoc]
  exact List.take_left' (by rw [List.length_map, mapL_len])
theorem lines_drop {n : Nat} {E : List Edge} {chs : List (Nat × Option Int)} : ((linesC n E chs).map sD).drop (E.length + 2) = chs.map fun (c : Nat × Option Int) => sD (chgL c.1 c.2) := by
  unfold linesC
  rw [List.map_append]
  have : (((mapL n E) ++ [wordL]).map sD).length = E.length + 2 := by rw [List.length_map, List.length_append, mapL_len, List.length_singleton]
  rw [List.drop_left' this, List.map_map]
  rfl
theorem lines_len {n : Nat} {E : List Edge} {chs : List (Nat × Option Int)} : ((linesC n E chs).map sD).length = E.length + 2 + chs.length := by
  unfold linesC
  simp only [List.length_map, List.length_append, mapL_len, List.length_singleton]
theorem Wat.setOk {C : Addr} {μ : Mu} {p q : Addr} {W : WS} (h : Wat C μ p q W) {i a b : Nat} {o o' : Option Int} {c : Int} (hi : W.ts[i]? = some (a, b, o)) (ho : ∀ l, o' = some l → 0 ≤ l ∧ l < 10 ^ 100) (hd : W.dn.length < 1000) : Wat C (putW C μ p q (W.set i a b o' c)) p q (W.set i a b o' c) :=
  h.put h.n1 h.n2 (by show (List.set _ _ _).length ≤ 120; rw [List.length_set]; exact h.tl) (h.tw.set hi ho) h.hl (by show (_ ++ [_]).length ≤ 1000; rw [List.length_append, List.length_singleton]; omega)
theorem ext_put {C : Addr} {μ μ' : Mu} {p q : Addr} {W : WS} (e : Ext μ μ') (hp : μ p = none) (hq : μ q = none) : Ext μ (putW C μ' p q W) := Ext.new (Ext.new e hp) hq
theorem sem_read_watch (C : Addr) (ds : List D) (μ : Mu) (kont : DK) (h : S_read_watch C ds μ kont) :
    bd_read_watch (S_init C) (S_lines C) (S_set_length C) G_change_in G_is_list G_read_map C { nx := fun _ μ' => GhV kont .non μ', rt := GhV kont } (startD N_read_watch ds) μ := by
  obtain ⟨n, E, chs, rfl, hM, hC, hl, hk⟩ := h
  have hm := hM.map.m
  have hll : ((linesC n E chs).map sD).length = E.length + 2 + chs.length := lines_len
  unfold bd_read_watch
  have kst : lcGo (egName 3) eYes (e1 (gIsi ["str"]) (eV 3)) [some (.lst ((linesC n E chs).map sD)), none, none, none, none, none] μ ((linesC n E chs).map sD) = some ((linesC n E chs).map fun _ => D.bl true) := by
    refine lcGo_map sD (fun _ => .bl true) _ fun l hl => ⟨[some (.lst ((linesC n E chs).map sD)), none, none, some (sD l), none, none], rfl, rfl, ?_⟩
    exact e1_i (x := sD l) rfl (isi_str kit_str_str)
  have ts : eTst (eN (gBls fun bs => bs.all id) (eCons (eLc (ipSeq (eV 0)) (egName 3) eYes (e1 (gIsi ["str"]) (eV 3)) [3]) eNil)) [some (.lst ((linesC n E chs).map sD)), none, none, none, none, none] μ = some true := by
    refine tst_i (eN_i (c_cons (d := .lst ((linesC n E chs).map fun _ => D.bl true)) ?_ c_nil) ?_)
    · have h2 : ((linesC n E chs).map sD).length ≤ 100000 := by omega
      simp only [eLc, ipSeq, eV, slot, seqI, items, Option.bind_some, h2, if_true, unsetAll, setS, kst]
    · simp only [gBls, itemsL, boolsT, allT]
  refine sSeq_i (sIf_f (or_f (not_i (tst_i (eFn_i (c_cons (d := .lst ((linesC n E chs).map sD)) rfl c_nil) rfl isl_lst))) (or_f (not_i ts) (tst_i (e2_i (x := .str "watch") rfl (y := .lst ((linesC n E chs).map sD)) rfl word_in)))) ?_)
  refine sSeq_i ⟨.int (E.length + 1 : Nat), e2_i (x := .lst ((linesC n E chs).map sD)) (eN_i (c_cons (d := .lst ((linesC n E chs).map sD)) rfl c_nil) rfl) rfl index_word, ?_⟩
  have er : eFn G_read_map [] 1 (eCons (e2 gJoin (eC (.str "\n")) (eSl (eV 0) eNoPart (ePart (eV 1)))) eNil) [some (.lst ((linesC n E chs).map sD)), some (.int (E.length + 1 : Nat)), none, none, none, none] μ = some (roadsD n E) := by
    refine eFn_i (c_cons (d := sD (TL.joinL [10] (mapL n E))) (e2_i (x := .str "\n") rfl (y := .lst ((mapL n E).map sD)) ?_ ?_) c_nil) rfl (read_map_eq hM)
    · have h1 : gSl μ (.lst ((linesC n E chs).map sD)) none (some ((E.length + 1 : Nat) : Int)) = some (.lst ((mapL n E).map sD)) := by
        show some (D.lst (DL.cutD ((linesC n E chs).map sD) none (some ((E.length + 1 : Nat) : Int)))) = _
        rw [cut_to _ (by omega), lines_take]
      simp only [eSl, eV, eNoPart, ePart, slot, Option.bind_some]
      exact h1
    · exact join_lines (ls := mapL n E) (s := 10) rfl (fun p hp => Nat.le_trans (mapL_short hM p hp) (by decide)) (by rw [mapL_len]; omega)
  refine sSeq_i (sSeq_i (sSeq_i ⟨[roadsD n E], c_cons er c_nil, fun p hp => ⟨rfl, p, n, E, rfl, updM_same, hM, fun q hq => ⟨rfl, ?_⟩⟩⟩))
  have hpq : p ≠ q := fun z => by
    subst z
    rw [updM_same] at hq
    cases hq
  have hq0 : μ q = none := by
    rw [updM_ne hpq.symm] at hq
    exact hq
  have ep : putW C (updM μ p (.ins C [])) p q (newW n E) = putW C μ p q (newW n E) := by
    unfold putW
    rw [updM_twice]
  rw [ep]
  have esl : eSl (eV 0) (ePart (e2 gAdd (eV 1) (eC (.int 1)))) eNoPart [some (.lst ((linesC n E chs).map sD)), some (.int (E.length + 1 : Nat)), some (.loc p), none, none, none] (putW C μ p q (newW n E)) = some (.lst (chs.map fun (c : Nat × Option Int) => sD (chgL c.1 c.2))) := by
    have h0 : (((E.length + 1 : Nat) : Int) + 1) = ((E.length + 2 : Nat) : Int) := by omega
    have h1 : gSl (putW C μ p q (newW n E)) (.lst ((linesC n E chs).map sD)) (some (((E.length + 1 : Nat) : Int) + 1)) none = some (.lst (chs.map fun (c : Nat × Option Int) => sD (chgL c.1 c.2))) := by
      show some (D.lst (DL.cutD ((linesC n E chs).map sD) (some (((E.length + 1 : Nat) : Int) + 1)) none)) = _
      rw [h0, cut_from _ (by omega), lines_drop]
    simp only [eSl, eV, eC, e2, eNoPart, ePart, slot, Option.bind_some, gAdd]
    exact h1
  refine ⟨.lst (chs.map fun (c : Nat × Option Int) => sD (chgL c.1 c.2)), esl, chs.map fun (c : Nat × Option Int) => sD (chgL c.1 c.2), rfl, ?_⟩
  refine forL_ix (fun i ρ μ' => ∃ W r3 r4 r5, ρ = [some (.lst ((linesC n E chs).map sD)), some (.int (E.length + 1 : Nat)), some (.loc p), r3, r4, r5] ∧ Ext μ μ' ∧ Wat C μ' p q W ∧ Hist (newW n E) (chs.take i) W)
    (fun _ _ _ _ => trivial) (fun i y ρ μ' N' hy hQ hN => ?_) (fun ρ μ' hQ => ?_) ⟨newW n E, none, none, none, rfl, ext_put (Ext.refl _) hp hq0, wat_new hM hpq, by rw [List.take_zero]; exact .nil⟩
  · obtain ⟨W, r3, r4, r5, rfl, he, hW, hH⟩ := hQ
    rw [List.getElem?_map] at hy
    cases hc : chs[i]? with
    | none => rw [hc] at hy; cases hy
    | some c =>
      rw [hc] at hy
      cases hy
      have hil : i < chs.length := (List.getElem?_eq_some_iff.mp hc).1
      obtain ⟨h5, h6⟩ := hC c (List.mem_of_getElem? hc)
      have hts : W.ts.length = E.length := by rw [hH.len, newW_len]
      obtain ⟨a, b, o, hi⟩ := get_ty (ts := W.ts) (i := c.1) (by omega)
      have hdl : W.dn.length < 1000 := by
        rw [hH.dnl, List.length_take]
        show 0 + min i chs.length < 1000
        omega
      refine sGh_i (sSeq_i ⟨.tup [.int c.1, oD c.2], eFn_i (c_cons (d := sD (chgL c.1 c.2)) rfl c_nil) rfl (change_in_eq (by omega) h6), [.int c.1, oD c.2], rfl, rfl, rfl, ?_⟩)
      refine ⟨.loc p, rfl, ⟨_, hW.mp, rfl⟩, [.int c.1, oD c.2], rfl, rfl, p, q, W, c.1, a, b, o, c.2, rfl, hW, hi, h6, hdl, fun cc => ?_⟩
      refine GhS.done (hN _ _ ⟨W.set c.1 a b c.2 cc, _, _, _, rfl, ext_put he hp hq0, hW.setOk hi h6 hdl, ?_⟩)
      rw [List.take_succ_eq_append_getElem hil, (List.getElem?_eq_some_iff.mp hc).2]
      exact .snoc hH hi
  · obtain ⟨W, r3, r4, r5, rfl, he, hW, hH⟩ := hQ
    rw [List.length_map, List.take_length] at hH
    refine sSeq_i ?_
    refine ⟨.loc p, rfl, ⟨_, hW.mp, rfl⟩, rfl, p, q, W, rfl, hW, dn_cs hH hC hm, .lst ((linesC n E chs).map sD), rfl, .bl false, ?_, ?_⟩
    · rw [lines_of hH]
      exact lst_eq_self (k := 0) (fun x hx => by
        obtain ⟨l, hl, rfl⟩ := List.mem_map.mp hx
        exact dk_str (asc_lines l hl)) (by decide)
    · exact if_no ⟨.loc p, rfl, GhV.done (hk p q μ' W he hp hq0 hW hH)⟩
end K60
end

section
set_option maxRecDepth 100000
/-! S17: the law's own: the same, draws. -/
namespace K60
open PySem PySem.Spec PyProof.Rows L2 DL Wl
/-- plain values, nested k deep at most -/
inductive Pl : Nat → D → Prop
  | non {k : Nat} : Pl k .non
  | int {k : Nat} {i : Int} : Pl k (.int i)
  | tup {k : Nat} {xs : List D} : xs.length ≤ 1000 → (∀ x ∈ xs, Pl k x) → Pl (k + 1) (.tup xs)
  | lst {k : Nat} {xs : List D} : xs.length ≤ 1000 → (∀ x ∈ xs, Pl k x) → Pl (k + 1) (.lst xs)
def sameF : Nat → Mu → List D → Option D
  | 0 => fun _ _ => none
  | k + 1 => gOf N__law_same (ev__law_same (sameF k))
section
variable {μ : Mu}
theorem same_seq {g : Mu → List D → Option D} {x : D} {xs : List D} {r2 : Option D} (hx : ∀ (i : Nat) (y : D), xs[i]? = some y → gIx μ x (.int i) = some y) (hl : gLen μ [x] = some (.int xs.length)) (hn : xs.length ≤ 1000) (hg : ∀ y ∈ xs, g μ [y, y] = some (.bl true)) :
    eAnd (e2 (gEq false) (eN gLen (eCons (eV 0) eNil)) (eN gLen (eCons (eV 1) eNil))) (e2 (gEq false) (eLc (ipRg1 (eCons (eN gLen (eCons (eV 1) eNil)) eNil)) (egName 2) (eNotT (eTst (eFn g [] 2 (eCons (e2 gIx (eV 0) (eV 2)) (eCons (e2 gIx (eV 1) (eV 2)) eNil))))) (eV 2) [2]) (eN DL.gLst eNil)) [some x, some x, r2] μ = some (.bl true) := by
  have e0 : eN gLen (eCons (eV 0) eNil) [some x, some x, r2] μ = some (.int xs.length) := eN_i (c_cons (d := x) rfl c_nil) hl
  have e1' : eN gLen (eCons (eV 1) eNil) [some x, some x, r2] μ = some (.int xs.length) := eN_i (c_cons (d := x) rfl c_nil) hl
  have key : lcGo (egName 2) (eNotT (eTst (eFn g [] 2 (eCons (e2 gIx (eV 0) (eV 2)) (eCons (e2 gIx (eV 1) (eV 2)) eNil))))) (eV 2) [some x, some x, none] μ ((List.range xs.length).map fun (i : Nat) => D.int (0 + (i : Int))) = some (((List.range xs.length).filter fun _ => false).map fun (i : Nat) => D.int (0 + (i : Int))) := by
    refine lcGo_filter (fun (i : Nat) => D.int (0 + (i : Int))) (fun _ => false) _ _ fun i hi => ⟨[some x, some x, some (.int (0 + (i : Int)))], rfl, ?_, fun _ => rfl⟩
    rw [List.mem_range] at hi
    have h1 : gIx μ x (.int (0 + (i : Int))) = some xs[i] := by rw [Int.zero_add]; exact hx _ _ (List.getElem?_eq_getElem hi)
    have h2 : eFn g [] 2 (eCons (e2 gIx (eV 0) (eV 2)) (eCons (e2 gIx (eV 1) (eV 2)) eNil)) [some x, some x, some (.int (0 + (i : Int)))] μ = some (.bl true) :=
      eFn_i (c_cons (e2_i (x := x) rfl (y := .int (0 + (i : Int))) rfl h1) (c_cons (e2_i (x := x) rfl (y := .int (0 + (i : Int))) rfl h1) c_nil)) rfl (hg _ (List.getElem_mem hi))
    exact not_i (tst_i h2)
  have hf : ((List.range xs.length).filter fun _ => false) = [] := by
    rw [List.filter_eq_nil_iff]
    intro a _ h
    cases h
  rw [hf, List.map_nil] at key
  have elc : eLc (ipRg1 (eCons (eN gLen (eCons (eV 1) eNil)) eNil)) (egName 2) (eNotT (eTst (eFn g [] 2 (eCons (e2 gIx (eV 0) (eV 2)) (eCons (e2 gIx (eV 1) (eV 2)) eNil))))) (eV 2) [2] [some x, some x, r2] μ = some (.lst []) := by
    have h1 : ipRg1 (eCons (eN gLen (eCons (eV 1) eNil)) eNil) [some x, some x, r2] μ = some ((List.range xs.length).map fun (i : Nat) => D.int (0 + (i : Int))) := by
      have h4 : ((xs.length : Nat) : Int) ≤ 100000 := by omega
      have h5 : (-100000 : Int) ≤ ((xs.length : Nat) : Int) := by omega
      simp only [ipRg1, eCons, eNil, e1', Option.bind_some, h4, h5, and_self, if_true, rgD, Int.toNat_natCast]
    have h2 : ((List.range xs.length).map fun (i : Nat) => D.int (0 + (i : Int))).length ≤ 100000 := by
      rw [List.length_map, List.length_range]
      omega
    simp only [eLc, h1, Option.bind_some, h2, if_true, unsetAll, setS, key]
  have h3 : e2 (gEq false) (eN gLen (eCons (eV 0) eNil)) (eN gLen (eCons (eV 1) eNil)) [some x, some x, r2] μ = some (.bl true) := by
    refine e2_i e0 e1' ?_
    rw [eq_int, decide_eq_true rfl]
    rfl
  have h4 : e2 (gEq false) (eLc (ipRg1 (eCons (eN gLen (eCons (eV 1) eNil)) eNil)) (egName 2) (eNotT (eTst (eFn g [] 2 (eCons (e2 gIx (eV 0) (eV 2)) (eCons (e2 gIx (eV 1) (eV 2)) eNil))))) (eV 2) [2]) (eN DL.gLst eNil) [some x, some x, r2] μ = some (.bl true) := by
    refine e2_i elc (y := .lst []) rfl ?_
    exact lst_eq_self (k := 0) (fun x hx => by simp at hx) (by decide)
  simp only [eAnd, h3, h4, Option.bind_some, if_true]
theorem is_fl {x : D} (h : isN x = false) : eTst (e2 (gIs false) (eV 1) (eC .non)) [some x, some x, none] μ = some false := by
  refine tst_i (e2_i (x := x) rfl rfl ?_)
  simp only [gIs, h]
  rfl
theorem is_ty {x : D} {cs : List String} {b : Bool} {i : Nat} {ρ : Ro} (h : gIsi cs μ x = some (.bl b)) (hs : slot ρ i = some x) : eTst (e1 (gIsi cs) (eV i)) ρ μ = some b := tst_i (e1_i hs h)
theorem same_self : ∀ {k : Nat} {x : D}, Pl k x → sameF (k + 1) μ [x, x] = some (.bl true)
  | k, _, .non => by
    refine g_ret (z_seq_ret (z_ift (or_t (tst_i (e2_i (x := .non) rfl rfl rfl))) (z_ret (if_ti (tst_i (e2_i (x := .non) rfl rfl rfl)) (e2_i (x := .non) rfl rfl rfl)))))
  | k, _, .int (i := i) => by
    have h1 : gEq false μ (.int (i - i)) (.int 0) = some (.bl true) := by
      rw [eq_int, decide_eq_true (Int.sub_self i)]
      rfl
    refine g_ret (z_seq (z_iff (or_f (is_fl rfl) (is_ty (isi_int kit_int_bool) rfl)) rfl) (z_seq_ret (z_ift (is_ty (isi_int kit_int_int) rfl) (z_ret ?_))))
    have a : e1 (gIsi ["int"]) (eV 0) [some (.int i), some (.int i), none] μ = some (.bl true) := e1_i (x := .int i) rfl (isi_int kit_int_int)
    have b : eNot (e1 (gIsi ["bool"]) (eV 0)) [some (.int i), some (.int i), none] μ = some (.bl true) := by
      have := e1_i (f := gIsi ["bool"]) (u := eV 0) (ρ := [some (.int i), some (.int i), none]) (μ := μ) (x := .int i) rfl (isi_int kit_int_bool)
      simp only [eNot, this, Option.bind_some]
      rfl
    have c : e2 (gEq false) (e2 (gArith fun i j => i - j) (eN gInt (eCons (eV 0) eNil)) (eV 1)) (eC (.int 0)) [some (.int i), some (.int i), none] μ = some (.bl true) :=
      e2_i (e2_i (eN_i (c_cons (d := .int i) rfl c_nil) rfl) (y := .int i) rfl rfl) rfl h1
    show eAnd (e1 (gIsi ["int"]) (eV 0)) (eAnd (eNot (e1 (gIsi ["bool"]) (eV 0))) (e2 (gEq false) (e2 (gArith fun i j => i - j) (eN gInt (eCons (eV 0) eNil)) (eV 1)) (eC (.int 0)))) [some (.int i), some (.int i), none] μ = _
    simp only [eAnd, a, b, c, Option.bind_some, if_true]
  | k + 1, _, .tup (xs := xs) hl hx => by
    have hq : ∀ b : Bool, gEq true μ (.bl b) (.bl b) = some (.bl false) := fun b => by
      simp only [gEq, eqB, decide_true]
      rfl
    refine g_ret (z_seq (z_iff (or_f (is_fl rfl) (is_ty (isi_tup kit_tuple_bool) rfl)) rfl) (z_seq (z_iff (is_ty (isi_tup kit_tuple_int) rfl) rfl) (z_seq (z_iff (is_ty (isi_tup kit_tuple_str) rfl) rfl) (z_seq (z_iff (is_ty (isi_tup kit_tuple_dict) rfl) rfl) (z_seq (z_iff (or_f (tst_i (e2_i (e1_i (x := .tup xs) rfl (isi_tup kit_tuple_list)) (e1_i (x := .tup xs) rfl (isi_tup kit_tuple_list)) (hq _))) (tst_i (e2_i (e1_i (x := .tup xs) rfl (isi_tup kit_tuple_tuple)) (e1_i (x := .tup xs) rfl (isi_tup kit_tuple_tuple)) (hq _)))) rfl) (z_ret ?_))))))
    exact same_seq (xs := xs) (fun i y h => ix_tup h) rfl hl fun y hy => same_self (hx y hy)
  | k + 1, _, .lst (xs := xs) hl hx => by
    have hq : ∀ b : Bool, gEq true μ (.bl b) (.bl b) = some (.bl false) := fun b => by
      simp only [gEq, eqB, decide_true]
      rfl
    refine g_ret (z_seq (z_iff (or_f (is_fl rfl) (is_ty (isi_lst kit_list_bool) rfl)) rfl) (z_seq (z_iff (is_ty (isi_lst kit_list_int) rfl) rfl) (z_seq (z_iff (is_ty (isi_lst kit_list_str) rfl) rfl) (z_seq (z_iff (is_ty (isi_lst kit_list_dict) rfl) rfl) (z_seq (z_iff (or_f (tst_i (e2_i (e1_i (x := .lst xs) rfl (isi_lst kit_list_list)) (e1_i (x := .lst xs) rfl (isi_lst kit_list_list)) (hq _))) (tst_i (e2_i (e1_i (x := .lst xs) rfl (isi_lst kit_list_tuple)) (e1_i (x := .lst xs) rfl (isi_lst kit_list_tuple)) (hq _)))) rfl) (z_ret ?_))))))
    exact same_seq (xs := xs) (fun i y h => ix_lst h) rfl hl fun y hy => same_self (hx y hy)
theorem Pl.mono {k j : Nat} {x : D} (h : Pl k x) : k ≤ j → Pl j x := by
  induction h generalizing j with
  | non => exact fun _ => .non
  | int => exact fun _ => .int
  | tup hl _ ih =>
    intro hj
    obtain ⟨j', rfl⟩ : ∃ j', j = j' + 1 := ⟨j - 1, by omega⟩
    exact .tup hl fun x hx => ih x hx (by omega)
  | lst hl _ ih =>
    intro hj
    obtain ⟨j', rfl⟩ : ∃ j', j = j' + 1 := ⟨j - 1, by omega⟩
    exact .lst hl fun x hx => ih x hx (by omega)
def G__law_same : Mu → List D → Option D := sameF 6
theorem same_ok {k : Nat} {x : D} (h : Pl k x) (hk : k ≤ 5) : G__law_same μ [x, x] = some (.bl true) := same_self (h.mono hk)
theorem pl_o {k : Nat} (o : Option Int) : Pl k (oD o) := by
  cases o with
  | none => exact .non
  | some _ => exact .int
theorem pl_row {r : List (Option Int)} (h : r.length ≤ 1000) : Pl 1 (rowT r) := .tup (by rw [List.length_map]; exact h) fun x hx => by
  obtain ⟨o, _, rfl⟩ := List.mem_map.mp hx
  exact pl_o o
theorem pl_tab {n : Nat} {E : List Edge} (h : n ≤ 1000) : Pl 2 (tabT (tab n E)) := .tup (by rw [List.length_map, tab_len]; exact h) fun x hx => by
  obtain ⟨r, hr, rfl⟩ := List.mem_map.mp hx
  unfold tab at hr
  obtain ⟨s, _, rfl⟩ := List.mem_map.mp hr
  exact pl_row (by rw [rowOf_len]; exact h)
theorem pl_roads {n : Nat} {E : List Edge} (h : E.length ≤ 1000) : Pl 3 (roadsD n E) := .tup (by show (2 : Nat) ≤ 1000; omega) fun x hx => by
  simp only [List.mem_cons, List.not_mem_nil, or_false] at hx
  rcases hx with rfl | rfl
  · exact .int
  · refine .tup (by rw [List.length_map]; exact h) fun x hx => ?_
    obtain ⟨e, _, rfl⟩ := List.mem_map.mp hx
    refine .tup (by show (3 : Nat) ≤ 1000; omega) fun x hx => ?_
    simp only [List.mem_cons, List.not_mem_nil, or_false] at hx
    rcases hx with rfl | rfl | rfl <;> exact .int
end
end K60
end

section
set_option maxRecDepth 100000
/-! S18: draws. -/
namespace K60
open PySem PySem.Spec PyProof.Rows L2 DL Wl
def BoxL (T : Nat) (l : List D) : Prop := ∃ (g : Int) (big : Bool) (m c : Int), l = [.int g, .bl big, .int m, .int c] ∧ 0 ≤ g ∧ 0 ≤ m ∧ m < 2147483629 ∧ 0 ≤ c ∧ c ≤ T
theorem BoxL.mono {T T' : Nat} {l : List D} (h : BoxL T l) (ht : T ≤ T') : BoxL T' l := by
  obtain ⟨g, big, m, c, rfl, h1, h2, h3, h4, h5⟩ := h
  exact ⟨g, big, m, c, rfl, h1, h2, h3, h4, by omega⟩
section
variable {μ : Mu} {ρ : Ro}
theorem mul_ok {i j : Int} (h : -(2 ^ 64) < i ∧ i < 2 ^ 64) : gMul μ (.int i) (.int j) = some (.int (i * j)) := by
  show (if (-(2 ^ 64) < i ∧ i < 2 ^ 64) ∨ (-(2 ^ 64) < j ∧ j < 2 ^ 64) then some (D.int (i * j)) else none) = _
  rw [if_pos (.inl h)]
theorem mul_ok' {i j : Int} (h : -(2 ^ 64) < j ∧ j < 2 ^ 64) : gMul μ (.int i) (.int j) = some (.int (i * j)) := by
  show (if (-(2 ^ 64) < i ∧ i < 2 ^ 64) ∨ (-(2 ^ 64) < j ∧ j < 2 ^ 64) then some (D.int (i * j)) else none) = _
  rw [if_pos (.inr h)]
theorem mod_ok {i j : Int} (h : j ≠ 0) : gMod μ (.int i) (.int j) = some (.int (i.fmod j)) := by
  show (if j ≠ 0 then some (D.int (i.fmod j)) else none) = _
  rw [if_pos h]
theorem div_ok {i j : Int} (h : j ≠ 0) (h2 : j.natAbs < 1073741824) : gDiv μ (.int i) (.int j) = some (.int (i.fdiv j)) := by
  show (if j ≠ 0 ∧ j.natAbs < 1073741824 then some (D.int (i.fdiv j)) else none) = _
  rw [if_pos ⟨h, h2⟩]
theorem pow_ok {i j : Int} (h : 0 ≤ j ∧ j ≤ 1000000) (h2 : i.natAbs < 2 ^ 64) : gPow μ (.int i) (.int j) = some (.int (i ^ j.toNat)) := by
  show (if 0 ≤ j ∧ j ≤ 1000000 ∧ i.natAbs < 2 ^ 64 then some (D.int (i ^ j.toNat)) else none) = _
  rw [if_pos ⟨h.1, h.2, h2⟩]
theorem fmod_rng (i : Int) {m : Nat} (h : 1 ≤ m) : ∃ r : Nat, i.fmod (m : Int) = r ∧ r < m := by
  have h1 : i.fmod (m : Int) = i % (m : Int) := Int.fmod_eq_emod_of_nonneg i (by omega)
  have h2 := Int.emod_nonneg i (show (m : Int) ≠ 0 by omega)
  have h3 := Int.emod_lt_of_pos i (show (0 : Int) < m by omega)
  refine ⟨(i % (m : Int)).toNat, ?_, ?_⟩ <;> omega
theorem int_i {e : EvE} {i : Int} (h : e ρ μ = some (.int i)) : eN gInt (eCons e eNil) ρ μ = some (.int i) := eN_i (c_cons h c_nil) rfl
theorem gt_i {i j : Int} : gCmpI (fun i j => decide (j < i)) μ (.int i) (.int j) = some (.bl (decide (j < i))) := rfl
theorem lt_i {i j : Int} : gCmpI (fun i j => decide (i < j)) μ (.int i) (.int j) = some (.bl (decide (i < j))) := rfl
def G__law_cell  : Mu → List D → Option D := gOf N__law_cell (ev__law_cell  )
theorem cell_eq (ns : List Int) (k : Nat) : ∃ i, G__law_cell μ [.scr ns, .int k] = some (.int i) := by
  have hlen : eN gLen (eCons (eV 0) eNil) [some (.scr ns), some (.int k)] μ = some (.int ns.length) := by
    refine eN_i (c_cons (d := .scr ns) rfl c_nil) ?_
    show some (D.int ((ns.map D.int).length : Nat)) = _
    rw [List.length_map]
  have t : eTst (e2 (gCmpI fun i j => decide (i < j)) (eV 1) (eN gLen (eCons (eV 0) eNil))) [some (.scr ns), some (.int k)] μ = some (decide ((k : Int) < (ns.length : Nat))) := tst_i (e2_i (x := .int k) rfl hlen rfl)
  by_cases h : k < ns.length
  · have hix : gIx μ (.scr ns) (.int k) = some (.int ns[k]) := by
      show atI (ns.map D.int) (k : Int) = _
      exact atI_nat (by rw [List.getElem?_map, List.getElem?_eq_getElem h]; rfl)
    rw [decide_eq_true (by omega)] at t
    exact ⟨ns[k], g_ret (z_ret (if_ti t (e2_i (x := .scr ns) rfl rfl hix)))⟩
  · rw [decide_eq_false (by omega)] at t
    have hs : eSl (eV 0) eNoPart (ePart (eC (.int 1))) [some (.scr ns), some (.int k)] μ = some (.lst ((DL.cutD ns none (some 1)).map D.int)) := by
      have : DL.cutD (ns.map D.int) none (some 1) = (DL.cutD ns none (some 1)).map D.int := by
        unfold DL.cutD
        rw [List.length_map, List.map_take, List.map_drop]
      show some (D.lst (DL.cutD (ns.map D.int) none (some 1))) = _
      rw [this]
    have hsum : gSumA μ [.lst ((DL.cutD ns none (some 1)).map D.int)] = some (.int (DL.cutD ns none (some 1)).sum) := by
      simp only [gSumA, itemsL, intsOf_map]
    exact ⟨_, g_ret (z_ret (if_fi t (e2_i (e2_i (x := .int 8663) rfl (y := .int k) rfl (mul_ok (by decide))) (e2_i (int_i (eN_i (c_cons hs c_nil) hsum)) rfl (mod_ok (by decide))) rfl)))⟩
end
def S__law_box : DC := fun ds μ k => ∃ g : Int, ds = [.int g] ∧ ∀ b l, μ b = none → BoxL 0 l → k (.loc b) (updM μ b (.lst l))
theorem sem__law_box (ds : List D) (μ : Mu) (kont : DK) (h : S__law_box ds μ kont) : bd__law_box { nx := fun _ μ' => GhV kont .non μ', rt := GhV kont } (startD N__law_box ds) μ := by
  obtain ⟨g, rfl, hk⟩ := h
  unfold bd__law_box
  have ha : eN gAbs (eCons (eV 0) eNil) [some (.int g)] μ = some (.int (if g < 0 then -g else g)) := eN_i (c_cons (d := .int g) rfl c_nil) rfl
  have ha0 : 0 ≤ (if g < 0 then -g else g) := by split <;> omega
  obtain ⟨r, h1, h2⟩ := fmod_rng (if g < 0 then -g else g) (m := 2147483629) (by decide)
  refine ⟨[.int (if g < 0 then -g else g), .bl (decide ((10 : Int) ^ 18 ≤ (if g < 0 then -g else g))), .int ((if g < 0 then -g else g).fmod 2147483629), .int 0], ?_, by show (4 : Nat) ≤ 100000; omega, fun b hb => GhV.done (hk b _ hb ⟨_, _, _, _, rfl, ha0, ?_, ?_, Int.le_refl _, Int.le_refl _⟩)⟩
  · exact c_cons ha (c_cons (e2_i ha (e2_i (x := .int 10) rfl (y := .int 18) rfl (pow_ok (by decide) (by decide))) rfl) (c_cons (e2_i (int_i ha) rfl (mod_ok (by decide))) (c_cons (d := .int 0) rfl c_nil)))
  · rw [show (2147483629 : Int) = ((2147483629 : Nat) : Int) from rfl, h1]
    omega
  · rw [show (2147483629 : Int) = ((2147483629 : Nat) : Int) from rfl, h1]
    omega
def S__law_take : DC := fun ds μ k => ∃ (b : Addr) (l : List D) (T many : Nat), ds = [.loc b, .int many] ∧ μ b = some (.lst l) ∧ BoxL T l ∧ T ≤ 1000000000 ∧ 1 ≤ many ∧ many ≤ 1000000 ∧ ∀ (r : Nat) (l' : List D), r < many → BoxL (T + 1) l' → k (.int r) (updM μ b (.lst l'))
theorem sem__law_take (ds : List D) (μ : Mu) (kont : DK) (h : S__law_take ds μ kont) : bd__law_take { nx := fun _ μ' => GhV kont .non μ', rt := GhV kont } (startD N__law_take ds) μ := by
  obtain ⟨b, l, T, many, rfl, hb, ⟨g, big, m, c, rfl, hg, hm0, hm1, hc0, hc1⟩, hT, hm, hmm, hk⟩ := h
  unfold bd__law_take
  have hmz : (many : Int) ≠ 0 := by omega
  have ix : ∀ (ρ : Ro) (μ' : Mu) (l : List D) (j : Nat) (d : D), slot ρ 0 = some (.loc b) → μ' b = some (.lst l) → l[j]? = some d → e2 gIx (eV 0) (eC (.int j)) ρ μ' = some d := fun ρ μ' l j d h0 h1 h2 => e2_i h0 rfl (ix_loc h1 h2)
  have tt : eAndT (eTst (e2 gIx (eV 0) (eC (.int 1)))) (eTst (e2 (gCmpI fun i j => decide (j < i)) (e2 gIx (eV 0) (eC (.int 0))) (eC (.int 0)))) [some (.loc b), some (.int many), none, none] μ = some (big && decide (0 < g)) := by
    have h1 := tst_i (ix [some (.loc b), some (.int many), none, none] μ _ 1 (.bl big) rfl hb rfl)
    have h2 := tst_i (e2_i (f := gCmpI fun i j => decide (j < i)) (ix [some (.loc b), some (.int many), none, none] μ _ 0 (.int g) rfl hb rfl) (v := eC (.int 0)) (y := .int 0) rfl gt_i)
    have h1' : eTst (e2 gIx (eV 0) (eC (.int 1))) [some (.loc b), some (.int many), none, none] μ = some big := h1
    cases big with
    | true => exact and_t h1' h2
    | false => exact and_f h1'
  cases hc : (big && decide (0 < g)) with
  | true =>
    rw [hc] at tt
    obtain ⟨r, hr1, hr2⟩ := fmod_rng g hm
    refine sSeq_i (sIf_t tt (sSeq_i ⟨.int (g.fmod many), e2_i (int_i (ix _ μ _ 0 (.int g) rfl hb rfl)) (y := .int many) rfl (mod_ok hmz), sSeq_i ⟨.int (g.fdiv many), e2_i (ix _ μ _ 0 (.int g) rfl hb rfl) (y := .int many) rfl (div_ok hmz (by omega)), .loc b, rfl, .int 0, rfl, lstAt_i hb ⟨0, rfl, ?_⟩⟩⟩))
    refine ⟨.int (g.fmod many), rfl, GhV.done ?_⟩
    rw [hr1]
    refine hk r _ hr2 ⟨g.fdiv many, big, m, c, rfl, ?_, hm0, hm1, hc0, by omega⟩
    rw [Int.fdiv_eq_ediv_of_nonneg g (by omega)]
    exact Int.ediv_nonneg hg (by omega)
  | false =>
    rw [hc] at tt
    refine sSeq_i (sIf_f tt (sSeq_i ⟨.int (c + 1), e2_i (ix _ μ _ 3 (.int c) rfl hb rfl) rfl rfl, .loc b, rfl, .int 3, rfl, lstAt_i hb ⟨3, rfl, sSeq_i ?_⟩⟩))
    have hb2 : updM μ b (.lst [.int g, .bl big, .int m, .int (c + 1)]) b = some (.lst [.int g, .bl big, .int m, .int (c + 1)]) := updM_same
    have b1 : (m + 15486059 * (c + 1) + 179424929).natAbs < 2 ^ 64 := by omega
    obtain ⟨r1, hr1, hr1'⟩ := fmod_rng ((m + 15486059 * (c + 1) + 179424929) ^ (5 : Int).toNat) (m := 2147483647) (by decide)
    refine ⟨.int (((m + 15486059 * (c + 1) + 179424929) ^ (5 : Int).toNat).fmod 2147483647), ?_, ?_⟩
    · exact e2_i (int_i (e2_i (e2_i (e2_i (ix _ _ _ 2 (.int m) rfl hb2 rfl) (e2_i (x := .int 15486059) rfl (ix _ _ _ 3 (.int (c + 1)) rfl hb2 rfl) (mul_ok (by decide))) rfl) (y := .int 179424929) rfl rfl) rfl (pow_ok (by decide) b1))) rfl (mod_ok (by decide))
    · rw [show (2147483647 : Int) = ((2147483647 : Nat) : Int) from rfl, hr1]
      have b2 : ((r1 : Int) * 48271 + 8669 * (c + 1)).natAbs < 2 ^ 64 := by omega
      obtain ⟨r2, hr2, hr2'⟩ := fmod_rng (((((r1 : Int) * 48271 + 8669 * (c + 1)) ^ (3 : Int).toNat).fmod 2147483587).fdiv 64) hm
      refine ⟨.int ((((((r1 : Int) * 48271 + 8669 * (c + 1)) ^ (3 : Int).toNat).fmod 2147483587).fdiv 64).fmod many), ?_, GhV.done ?_⟩
      · exact e2_i (int_i (e2_i (e2_i (int_i (e2_i (e2_i (e2_i (x := .int r1) rfl (y := .int 48271) rfl (mul_ok' (by decide))) (e2_i (x := .int 8669) rfl (ix _ _ _ 3 (.int (c + 1)) rfl hb2 rfl) (mul_ok (by decide))) rfl) rfl (pow_ok (by decide) b2))) rfl (mod_ok (by decide))) rfl (div_ok (by decide) (by decide)))) (y := .int many) rfl (mod_ok hmz)
      · rw [hr2]
        exact hk r2 _ hr2' ⟨g, big, m, c + 1, rfl, hg, hm0, hm1, by omega, by omega⟩
end K60
end

section
set_option maxRecDepth 100000
/-! S19: rows of draws. -/
namespace K60
open PySem PySem.Spec PyProof.Rows L2 DL Wl
theorem updM_self {μ : Mu} {p : Addr} {m : MO} (h : μ p = some m) : updM μ p m = μ := by
  funext x
  unfold updM
  by_cases hx : x = p
  · subst hx
    rw [if_pos rfl, h]
  · rw [if_neg hx]
theorem perm_pop : ∀ {xs : List D} {r : Nat} {y : D}, xs[r]? = some y → (y :: xs.eraseIdx r).Perm xs
  | [], r, y, h => by simp at h
  | x :: t, 0, y, h => by
    cases h
    exact List.Perm.refl _
  | x :: t, r + 1, y, h => by
    have := perm_pop (xs := t) (r := r) (y := y) h
    exact (List.Perm.swap x y _).trans (this.cons x)
def S__law_mixed : DC := fun ds μ k => ∃ (b : Addr) (l : List D) (T : Nat) (xs : List D), ds = [.loc b, .lst xs] ∧ μ b = some (.lst l) ∧ BoxL T l ∧ T + 1000 ≤ 1000000000 ∧ xs.length ≤ 1000 ∧ ∀ (ys l' : List D), ys.Perm xs → BoxL (T + xs.length) l' → k (.lst ys) (updM μ b (.lst l'))
theorem sem__law_mixed (ds : List D) (μ : Mu) (kont : DK) (h : S__law_mixed ds μ kont) : bd__law_mixed S__law_take { nx := fun _ μ' => GhV kont .non μ', rt := GhV kont } (startD N__law_mixed ds) μ := by
  obtain ⟨b, l, T, xs, rfl, hb, hB, hT, hx, hk⟩ := h
  unfold bd__law_mixed
  refine sSeq_i ⟨[.lst xs], rfl, .lst xs, xs, rfl, rfl, fun p hp => ⟨[], rfl, Nat.zero_le _, fun f hf => ⟨[], rfl, sSeq_i ?_⟩⟩⟩
  have hbp : b ≠ p := fun z => by
    subst z
    rw [hb] at hp
    cases hp
  have hpf : p ≠ f := fun z => by
    subst z
    rw [updM_same] at hf
    cases hf
  have hbf : b ≠ f := fun z => by
    subst z
    rw [updM_ne hbp, hb] at hf
    cases hf
  have hf0 : μ f = none := by
    rw [updM_ne hpf.symm] at hf
    exact hf
  refine ⟨[.int xs.length], c_cons (eN_i (c_cons (d := .lst xs) rfl c_nil) rfl) c_nil, ⟨by omega, by omega⟩, ?_⟩
  rw [Int.toNat_natCast]
  refine forL_ix (fun i ρ μ' => ∃ (l' left found : List D) (r2 : Option D), ρ = [some (.loc b), some (.lst xs), r2, some (.loc p), some (.loc f)] ∧ BoxL (T + i) l' ∧ μ' b = some (.lst l') ∧ μ' p = some (.lst left) ∧ μ' f = some (.lst found) ∧ (found ++ left).Perm xs ∧ found.length = i ∧ ∀ a m, a ≠ b → μ a = some m → μ' a = some m)
    (fun _ _ _ _ => trivial) (fun i y ρ μ' N' hy hQ hN => ?_) (fun ρ μ' hQ => ?_) ⟨l, xs, [], none, rfl, hB, ?_, ?_, updM_same, List.Perm.refl _, rfl, fun a m hab ha => ?_⟩
  · obtain ⟨l', left, found, r2, rfl, hB', mb, mp, mf, hP, hfl, hE⟩ := hQ
    obtain ⟨rfl, hin⟩ := rg_get hy
    have hll := hP.length_eq
    rw [List.length_append, hfl] at hll
    refine sGh_i ⟨.loc f, rfl, ⟨_, itemsL_loc mf⟩, .loc p, rfl, ⟨_, itemsL_loc mp⟩, [.loc b, .int left.length], ?_, rfl, b, l', T + i, left.length, rfl, mb, hB', by omega, by omega, by omega, fun r l'' hr hB'' => ?_⟩
    · refine c_cons (d := .loc b) rfl (c_cons (eN_i (c_cons (d := .loc p) rfl c_nil) ?_) c_nil)
      simp only [gLen, items_loc mp]
    obtain ⟨y, hy⟩ : ∃ y, left[r]? = some y := ⟨_, List.getElem?_eq_getElem hr⟩
    have mp2 : updM μ' b (.lst l'') p = some (.lst left) := by rw [updM_ne hbp.symm]; exact mp
    have mf2 : updM (updM μ' b (.lst l'')) p (.lst (left.eraseIdx r)) f = some (.lst found) := by rw [updM_ne hpf.symm, updM_ne hbf.symm]; exact mf
    refine ⟨[], rfl, lstAt_i mp2 ⟨⟨by omega, by omega⟩, y, hy, [], rfl, lstAt_i mf2 ⟨by omega, GhS.done (hN _ _ ⟨l'', left.eraseIdx r, found ++ [y], _, rfl, by rw [Nat.add_assoc] at hB''; exact hB'', ?_, ?_, updM_same, ?_, by rw [List.length_append, List.length_singleton, hfl], fun a m hab ha => ?_⟩)⟩⟩⟩
    · rw [updM_ne hbf, updM_ne hbp, updM_same]
    · rw [updM_ne hpf]
      exact updM_same
    · rw [List.append_assoc]
      exact (List.Perm.append_left found (perm_pop hy)).trans hP
    · have h1 : a ≠ f := ne_of_mu ha hf0
      have h2 : a ≠ p := ne_of_mu ha hp
      rw [updM_ne h1, updM_ne h2, updM_ne hab]
      exact hE a m hab ha
  · obtain ⟨l', left, found, r2, rfl, hB', mb, mp, mf, hP, hfl, hE⟩ := hQ
    rw [rg_len] at hB' hfl
    have hll := hP.length_eq
    rw [List.length_append, hfl] at hll
    have hl0 : left = [] := List.eq_nil_of_length_eq_zero (by omega)
    subst hl0
    rw [List.append_nil] at hP
    refine ⟨.loc f, rfl, GhV.frz f _ mf ?_⟩
    have e1 : sbL f found (.loc f) = .lst found := by simp only [sbL, if_true]
    rw [e1]
    refine GhV.drop (updM μ b (.lst l')) (fun a m ha => ?_) (GhV.done (hk found l' hP hB'))
    by_cases hab : a = b
    · subst hab
      rw [updM_same] at ha
      unfold delM
      rw [if_neg hbf, mb]
      exact ha
    · rw [updM_ne hab] at ha
      unfold delM
      rw [if_neg (ne_of_mu ha hf0)]
      exact hE a m hab ha
  · rw [updM_ne hbf, updM_ne hbp]
    exact hb
  · rw [updM_ne hpf]
    exact updM_same
  · rw [updM_ne (ne_of_mu ha hf0), updM_ne (ne_of_mu ha hp)]
    exact ha
def S__law_long : DC := fun ds μ k => ∃ (b : Addr) (l : List D) (T : Nat), ds = [.loc b] ∧ μ b = some (.lst l) ∧ BoxL T l ∧ T + 1000 ≤ 1000000000 ∧ ∀ (u : Int) (l' : List D), 1 ≤ u → u ≤ 4 * 10 ^ 38 → BoxL (T + 7) l' → k (.int u) (updM μ b (.lst l'))
theorem sem__law_long (ds : List D) (μ : Mu) (kont : DK) (h : S__law_long ds μ kont) : bd__law_long S__law_take { nx := fun _ μ' => GhV kont .non μ', rt := GhV kont } (startD N__law_long ds) μ := by
  obtain ⟨b, l, T, rfl, hb, hB, hT, hk⟩ := h
  unfold bd__law_long
  refine sSeq_i ⟨.int 0, rfl, sSeq_i ⟨[.int 7], rfl, ⟨by decide, by decide⟩, ?_⟩⟩
  refine forL_ix (fun i ρ μ' => ∃ (l' : List D) (v : Int) (r2 : Option D), ρ = [some (.loc b), some (.int v), r2] ∧ BoxL (T + i) l' ∧ μ' = updM μ b (.lst l'))
    (fun _ _ _ _ => trivial) (fun i y ρ μ' N' hy hQ hN => ?_) (fun ρ μ' hQ => ?_) ⟨l, 0, none, rfl, hB, (updM_self hb).symm⟩
  · obtain ⟨l', v, r2, rfl, hB', rfl⟩ := hQ
    obtain ⟨rfl, hin⟩ := rg_get hy
    have h7 : i < 7 := hin
    have hp6 : gPow (updM μ b (.lst l')) (.int 10) (.int 6) = some (.int 1000000) := pow_ok (by decide) (by decide)
    refine sGh_i ⟨.int (v * 1000000), e2_i (x := .int v) rfl (e2_i (x := .int 10) rfl (y := .int 6) rfl hp6) (mul_ok' (by decide)), [.loc b, .int ((1000000 : Nat) : Int)], c_cons (d := .loc b) rfl (c_cons (e2_i (x := .int 10) rfl (y := .int 6) rfl hp6) c_nil), rfl, b, l', T + i, 1000000, rfl, updM_same, hB', by omega, by decide, by decide, fun r l'' hr hB'' => ?_⟩
    rw [updM_twice]
    exact ⟨_, rfl, GhS.done (hN _ _ ⟨l'', _, _, rfl, by rw [Nat.add_assoc] at hB''; exact hB'', rfl⟩)⟩
  · obtain ⟨l', v, r2, rfl, hB', rfl⟩ := hQ
    have h7 : (rgD 0 (Int.toNat 7)).length = 7 := rg_len _
    rw [h7] at hB'
    have hp38 : gPow (updM μ b (.lst l')) (.int 10) (.int 38) = some (.int (10 ^ 38)) := pow_ok (by decide) (by decide)
    have hm : gMul (updM μ b (.lst l')) (.int 4) (.int (10 ^ 38)) = some (.int (4 * 10 ^ 38)) := mul_ok (by decide)
    have hfm : v.fmod (4 * 10 ^ 38) = v % (4 * 10 ^ 38) := Int.fmod_eq_emod_of_nonneg v (by decide)
    have h2 := Int.emod_nonneg v (show (4 * 10 ^ 38 : Int) ≠ 0 by decide)
    have h3 := Int.emod_lt_of_pos v (show (0 : Int) < 4 * 10 ^ 38 by decide)
    refine ⟨.int (1 + v.fmod (4 * 10 ^ 38)), e2_i (x := .int 1) rfl (e2_i (int_i (i := v) rfl) (e2_i (x := .int 4) rfl (e2_i (x := .int 10) rfl (y := .int 38) rfl hp38) hm) (mod_ok (by decide))) rfl, GhV.done (hk _ l' ?_ ?_ hB')⟩
    · rw [hfm]; omega
    · rw [hfm]; omega
def S__law_two : DC := fun ds μ k => ∃ (b : Addr) (l : List D) (T many : Nat), ds = [.loc b, .int many] ∧ μ b = some (.lst l) ∧ BoxL T l ∧ T + 1000 ≤ 1000000000 ∧ 2 ≤ many ∧ many ≤ 1000 ∧ ∀ (u v : Nat) (l' : List D), u < many → v < many → u ≠ v → BoxL (T + 2) l' → k (.tup [.int u, .int v]) (updM μ b (.lst l'))
theorem sem__law_two (ds : List D) (μ : Mu) (kont : DK) (h : S__law_two ds μ kont) : bd__law_two S__law_take { nx := fun _ μ' => GhV kont .non μ', rt := GhV kont } (startD N__law_two ds) μ := by
  obtain ⟨b, l, T, many, rfl, hb, hB, hT, hm, hmm, hk⟩ := h
  unfold bd__law_two
  refine sSeq_i ⟨[.loc b, .int many], rfl, rfl, b, l, T, many, rfl, hb, hB, by omega, by omega, by omega, fun u l' hu hB' => ?_⟩
  have hm1 : ((many : Int) - 1) = ((many - 1 : Nat) : Int) := by omega
  refine ⟨.int u, rfl, .int (u + 1), rfl, [.loc b, .int ((many : Int) - 1)], rfl, rfl, b, l', T + 1, many - 1, by rw [hm1]; rfl, updM_same, hB', by omega, by omega, by omega, fun r l'' hr hB'' => ?_⟩
  rw [updM_twice]
  have hz : (many : Int) ≠ 0 := by omega
  have hfm : ((u : Int) + 1 + r).fmod many = ((u : Int) + 1 + r) % many := Int.fmod_eq_emod_of_nonneg _ (by omega)
  have hv : (((u : Int) + 1 + r) % many) = (((u + 1 + r) % many : Nat) : Int) := by
    rw [show ((u : Int) + 1 + r) = ((u + 1 + r : Nat) : Int) by omega]
    exact (Int.natCast_emod _ _).symm
  have hlt : (u + 1 + r) % many < many := Nat.mod_lt _ (by omega)
  have hne : u ≠ (u + 1 + r) % many := fun q => by
    by_cases h1 : u + 1 + r < many
    · rw [Nat.mod_eq_of_lt h1] at q
      omega
    · rw [Nat.mod_eq_sub_mod (by omega), Nat.mod_eq_of_lt (by omega)] at q
      omega
  refine ⟨.int (u + 1 + r), rfl, [], rfl, .int (u + 1 + r), rfl, .int many, rfl, .int (((u : Int) + 1 + r).fmod many), mod_ok hz, [], rfl, by show (2 : Nat) ≤ 100000; omega, GhV.done ?_⟩
  rw [hfm, hv]
  exact hk u _ l'' hu hlt hne (by rw [Nat.add_assoc] at hB''; exact hB'')
end K60
end

section
set_option maxRecDepth 100000
/-! S20: drawn maps. -/
namespace DL
open PySem PySem.Spec PyProof.Rows L2
theorem lcL_ix {g : DG} {te : DE} {ok : Mu → Prop} {ρ' : Ro} {k : List D → Mu → Prop} {ds : List D} (Q : Nat → List D → Mu → Prop) (hok : ∀ i acc μ, Q i acc μ → ok μ) (hacc : ∀ i acc μ, Q i acc μ → acc.length = i) (hl : ds.length ≤ 100000)
    (step : ∀ i x acc μ (N : D → Mu → Prop), ds[i]? = some x → Q i acc μ → (∀ y μ', Q (i + 1) (acc ++ [y]) μ' → N y μ') → g x ρ' μ fun ρ1 μ1 => te ρ1 μ1 N) (fin : ∀ acc μ, Q ds.length acc μ → k acc μ) {μ : Mu} (h0 : Q 0 [] μ) : lcL g dYes te ok ρ' ds [] μ k := by
  have key : ∀ (r : List D) (i : Nat) (acc : List D) (μ : Mu), i ≤ ds.length → r = ds.drop i → Q i acc μ → lcL g dYes te ok ρ' r acc μ k := fun r => by
    induction r with
    | nil =>
      intro i acc μ hi hr h
      have : ds.length ≤ i := by
        have := congrArg List.length hr
        rw [List.length_drop, List.length_nil] at this
        omega
      have e : i = ds.length := by omega
      subst e
      exact ⟨hok _ _ _ h, fin _ _ h⟩
    | cons x r ih =>
      intro i acc μ hi hr h
      have hx : ds[i]? = some x := by
        have := congrArg List.head? hr
        rw [List.head?_drop] at this
        exact this.symm
      have hlt : i < ds.length := (List.getElem?_eq_some_iff.mp hx).1
      have ha := hacc _ _ _ h
      have hr2 : r = ds.drop (i + 1) := by
        have := congrArg List.tail hr
        rw [List.tail_drop] at this
        exact this
      refine ⟨hok _ _ _ h, by omega, ?_⟩
      exact step i x acc μ (fun y μ' => lcL g dYes te ok ρ' r (acc ++ [y]) μ' k) hx h fun y μ' h' => ih (i + 1) (acc ++ [y]) μ' hlt hr2 h'
  exact key ds 0 [] μ (Nat.zero_le _) (by rw [List.drop_zero]) h0
end DL
namespace K60
open PySem PySem.Spec PyProof.Rows L2 DL Wl
def Gd (n : Nat) (u : Int) (e : Edge) : Prop := e.1 < n ∧ e.2.1 < n ∧ e.1 ≠ e.2.1 ∧ 0 ≤ e.2.2 ∧ e.2.2 ≤ 9 * u
theorem most_ix {μ : Mu} {ρ : Ro} {m : Nat} (hm : m < 3) (h : slot ρ 7 = some (.int m)) : ∃ t : Nat, e2 gIx (eN DL.gLst (eCons (eC (.int 3)) (eCons (eC (.int 6)) (eCons (eC (.int 10)) eNil)))) (eV 7) ρ μ = some (.int t) ∧ 1 ≤ t ∧ t ≤ 10 := by
  have h1 : ∀ j : Nat, ∀ d, [D.int 3, .int 6, .int 10][j]? = some d → j = m → e2 gIx (eN DL.gLst (eCons (eC (.int 3)) (eCons (eC (.int 6)) (eCons (eC (.int 10)) eNil)))) (eV 7) ρ μ = some d := fun j d hd hj => by
    subst hj
    exact e2_i (x := .lst [.int 3, .int 6, .int 10]) rfl h (ix_lst hd)
  rcases (by omega : m = 0 ∨ m = 1 ∨ m = 2) with e | e | e
  · exact ⟨3, h1 0 _ rfl e.symm, by decide, by decide⟩
  · exact ⟨6, h1 1 _ rfl e.symm, by decide, by decide⟩
  · exact ⟨10, h1 2 _ rfl e.symm, by decide, by decide⟩
theorem len_ok {u : Int} {r t : Nat} (h1 : 1 ≤ u) (hr : r < t) (ht : t ≤ 10) : 0 ≤ u * (r : Int) ∧ u * (r : Int) ≤ 9 * u := by
  have h9 : (r : Int) ≤ 9 := by omega
  constructor
  · exact Int.mul_nonneg (by omega) (by omega)
  · rw [Int.mul_comm 9 u]
    exact Int.mul_le_mul_of_nonneg_left h9 (by omega)
theorem mem_rg {n : Nat} {y : D} (h : y ∈ rgD 0 n) : ∃ j : Nat, y = .int j ∧ j < n := by
  obtain ⟨i, hi⟩ := List.getElem?_of_mem h
  obtain ⟨h1, h2⟩ := rg_get hi
  exact ⟨i, h1, h2⟩
theorem nodup_rg (n : Nat) : (rgD 0 n).Nodup := by
  unfold rgD
  refine List.pairwise_map.mpr (List.nodup_range.imp fun {a b} hab q => hab ?_)
  injection q with q
  omega
theorem sort_map {n : Nat} {u : Int} {es : List Edge} (h1 : 2 ≤ n) (h2 : n ≤ 20) (hl : es.length ≤ 120) (h : ∀ e ∈ es, Gd n u e) : Map n (sortE es) :=
  ⟨by omega, h2, by rw [(sortE_perm es).length_eq]; exact hl, fun a b l he => by
    obtain ⟨h3, h4, _, h5, _⟩ := h _ ((sortE_perm es).mem_iff.mp he)
    exact ⟨h3, h4, h5⟩, fun a b l he => (h _ ((sortE_perm es).mem_iff.mp he)).2.2.1, sortE_sorted es⟩
def S__law_roads : DC := fun ds μ k => ∃ (b : Addr) (l : List D) (T : Nat) (wide : Bool) (u : Int), ds = [.loc b, .bl wide, .int u] ∧ μ b = some (.lst l) ∧ BoxL T l ∧ T + 2000 ≤ 1000000000 ∧ 1 ≤ u ∧ u ≤ 4 * 10 ^ 38 ∧
  ∀ (n : Nat) (E : List Edge) (l' : List D), 2 ≤ n → Map n E → 2 ≤ E.length → (∀ e ∈ E, e.2.2 ≤ 9 * u) → BoxL (T + 1000) l' → k (roadsD n E) (updM μ b (.lst l'))
def rest_roads : DS := sSeq (sAsg (dMut (dLc (iRg1 (dPA (eCons (eV 3) eNil))) (dgName 5) dYes (dTup (dCons (dP (e2 gIx (eV 8) (eV 5))) (dCons (dP (e2 gIx (eV 8) (eIf (eTst (e2 (gCmpI fun i j => decide (i < j)) (e2 gAdd (eV 5) (eC (.int 1))) (eV 3))) (e2 gAdd (eV 5) (eC (.int 1))) (eC (.int 0))))) (dCons (dOp (p2 gMul) (dP (eV 2)) (dFn S__law_take [] 2 (dPA (eCons (eV 0) (eCons (e2 gIx (eN DL.gLst (eCons (eC (.int 3)) (eCons (eC (.int 6)) (eCons (eC (.int 10)) eNil)))) (eV 7)) eNil))))) (dPA eNil))))) [5])) (dgName 4)) (sSeq (sFor (iRg1 (dPA (eCons (eN gMax (eCons (eC (.int 0)) (eCons (e2 (gArith fun i j => i - j) (eV 6) (eV 3)) eNil))) eNil))) (dgName 5) (sGh (sSeq (sAsg (dFn S__law_two [] 2 (dPA (eCons (eV 0) (eCons (eV 3) eNil)))) (dgTup 2 (dgCons (dgName 9) (dgCons (dgName 10) dgNil)))) (sDrop (dBM fApp (dP (eV 4)) (dCons (dTup (dCons (dP (eV 9)) (dCons (dP (eV 10)) (dCons (dOp (p2 gMul) (dP (eV 2)) (dFn S__law_take [] 2 (dPA (eCons (eV 0) (eCons (e2 gIx (eN DL.gLst (eCons (eC (.int 3)) (eCons (eC (.int 6)) (eCons (eC (.int 10)) eNil)))) (eV 7)) eNil))))) (dPA eNil))))) (dPA eNil))))))) (sRet (dP (eN DL.gTup (eCons (eV 3) (eCons (eN gTuple (eCons (eN gSorted (eCons (eV 4) eNil)) eNil)) eNil))))))
theorem roads_rest {μ : Mu} {kont : DK} {b : Addr} {l : List D} {T n c m : Nat} {w : Option D} {u : Int} {ys : List D} {r5 : Option D} (hb : μ b = some (.lst l)) (hB : BoxL T l) (hT : T + 1900 ≤ 1000000000) (hn2 : 2 ≤ n) (hn : n ≤ 20) (hc : c ≤ 120) (hm : m < 3) (hu : 1 ≤ u) (hys : ys.Perm (rgD 0 n))
    (hk : ∀ (E : List Edge) (l' : List D), Map n E → 2 ≤ E.length → (∀ e ∈ E, e.2.2 ≤ 9 * u) → BoxL (T + 800) l' → kont (roadsD n E) (updM μ b (.lst l'))) :
    rest_roads { nx := fun _ μ' => GhV kont .non μ', rt := GhV kont } [some (.loc b), w, some (.int u), some (.int n), none, r5, some (.int c), some (.int m), some (.lst ys), none, none] μ := by
  have yl : ys.length = n := by rw [hys.length_eq, rg_len]
  have yn : ys.Nodup := (hys.nodup_iff).mpr (nodup_rg n)
  have yg : ∀ i : Nat, i < n → ∃ j : Nat, ys[i]? = some (.int j) ∧ j < n := fun i hi => by
    have h1 : ys[i]? = some ys[i] := List.getElem?_eq_getElem (by omega)
    obtain ⟨j, h2, h3⟩ := mem_rg (hys.mem_iff.mp (List.mem_of_getElem? h1))
    exact ⟨j, by rw [h1, h2], h3⟩
  unfold rest_roads
  refine sSeq_i ⟨[.int n], rfl, ⟨by omega, by omega⟩, ?_⟩
  rw [Int.toNat_natCast]
  refine lcL_ix (fun i acc μ' => ∃ (l' : List D) (es : List Edge), acc = es.map edgeD ∧ es.length = i ∧ (∀ e ∈ es, Gd n u e) ∧ μ' = updM μ b (.lst l') ∧ BoxL (T + i) l') (fun _ _ _ _ => trivial) (fun i acc μ' h => by
    obtain ⟨_, es, rfl, h2, _⟩ := h
    rw [List.length_map]
    exact h2) (by rw [rg_len]; omega) (fun i x acc μ' N hx hQ hN => ?_) (fun acc μ' hQ => ?_) ⟨l, [], rfl, rfl, fun e he => (by simp at he), (updM_self hb).symm, hB⟩
  · obtain ⟨l', es, rfl, hel, hg, rfl, hB'⟩ := hQ
    obtain ⟨rfl, hin⟩ := rg_get hx
    obtain ⟨j1, hj1, hj1n⟩ := yg i hin
    obtain ⟨t, ht, ht1, ht2⟩ := most_ix (μ := updM μ b (.lst l')) (ρ := [some (.loc b), w, some (.int u), some (.int n), none, some (.int i), some (.int c), some (.int m), some (.lst ys), none, none]) hm rfl
    have nxt : ∃ j2 : Nat, j2 < n ∧ j1 ≠ j2 ∧ e2 gIx (eV 8) (eIf (eTst (e2 (gCmpI fun i j => decide (i < j)) (e2 gAdd (eV 5) (eC (.int 1))) (eV 3))) (e2 gAdd (eV 5) (eC (.int 1))) (eC (.int 0))) [some (.loc b), w, some (.int u), some (.int n), none, some (.int i), some (.int c), some (.int m), some (.lst ys), none, none] (updM μ b (.lst l')) = some (.int j2) := by
      have ea : e2 gAdd (eV 5) (eC (.int 1)) [some (.loc b), w, some (.int u), some (.int n), none, some (.int i), some (.int c), some (.int m), some (.lst ys), none, none] (updM μ b (.lst l')) = some (.int ((i + 1 : Nat) : Int)) := e2_i (x := .int i) rfl rfl rfl
      have et := tst_i (e2_i (f := gCmpI fun i j => decide (i < j)) ea (v := eV 3) (y := .int n) rfl lt_i)
      by_cases h1 : i + 1 < n
      · obtain ⟨j2, h2, h3⟩ := yg (i + 1) h1
        rw [decide_eq_true (by omega)] at et
        refine ⟨j2, h3, fun q => ?_, e2_i (x := .lst ys) rfl (if_ti et ea) (ix_lst h2)⟩
        subst q
        have := nodup_at yn hj1 h2
        omega
      · obtain ⟨j2, h2, h3⟩ := yg 0 (by omega)
        rw [decide_eq_false (by omega)] at et
        refine ⟨j2, h3, fun q => ?_, e2_i (x := .lst ys) rfl (if_fi et (d := .int 0) rfl) (ix_lst (j := 0) h2)⟩
        subst q
        have := nodup_at yn hj1 h2
        omega
    obtain ⟨j2, hj2n, hne, hix2⟩ := nxt
    refine ⟨.int j1, e2_i (x := .lst ys) rfl (y := .int i) rfl (ix_lst hj1), .int j2, hix2, .int u, rfl, [.loc b, .int t], c_cons (d := .loc b) rfl (c_cons ht c_nil), rfl, b, l', T + i, t, rfl, updM_same, hB', by omega, ht1, by omega, fun r l'' hr hB'' => ?_⟩
    rw [updM_twice]
    have hlo := len_ok hu hr ht2
    refine ⟨.int (u * r), mul_ok' (by omega), [], rfl, by show (3 : Nat) ≤ 100000; omega, hN _ _ ⟨l'', es ++ [(j1, j2, u * r)], by rw [List.map_append]; rfl, by rw [List.length_append, List.length_singleton, hel], fun e he => ?_, rfl, by rw [Nat.add_assoc] at hB''; exact hB''⟩⟩
    rcases List.mem_append.mp he with he | he
    · exact hg e he
    · rw [List.mem_singleton] at he
      subst he
      exact ⟨hj1n, hj2n, hne, hlo.1, hlo.2⟩
  · obtain ⟨l1, es, rfl, hel, hg, rfl, hB1⟩ := hQ
    rw [rg_len] at hel hB1
    intro p hp
    have hbp : p ≠ b := fun z => by
      subst z
      rw [updM_same] at hp
      cases hp
    have hp0 : μ p = none := by
      rw [updM_ne hbp] at hp
      exact hp
    have emax : eN gMax (eCons (eC (.int 0)) (eCons (e2 (gArith fun i j => i - j) (eV 6) (eV 3)) eNil)) [some (.loc b), w, some (.int u), some (.int n), some (.loc p), r5, some (.int c), some (.int m), some (.lst ys), none, none] (updM (updM μ b (.lst l1)) p (.lst (es.map edgeD))) = some (.int ((c - n : Nat) : Int)) := by
      refine eN_i (c_cons (d := .int 0) rfl (c_cons (e2_i (x := .int c) rfl (y := .int n) rfl rfl) c_nil)) ?_
      show some (D.int (if ((c : Int) - n) > 0 then ((c : Int) - n) else 0)) = _
      congr 2
      split <;> omega
    refine sSeq_i ⟨[.int ((c - n : Nat) : Int)], c_cons emax c_nil, ⟨by omega, by omega⟩, ?_⟩
    rw [Int.toNat_natCast]
    refine forL_ix (fun i ρ μ' => ∃ (l' : List D) (es : List Edge) (q5 q9 q10 : Option D), ρ = [some (.loc b), w, some (.int u), some (.int n), some (.loc p), q5, some (.int c), some (.int m), some (.lst ys), q9, q10] ∧ es.length = n + i ∧ (∀ e ∈ es, Gd n u e) ∧ μ' = updM (updM μ b (.lst l')) p (.lst (es.map edgeD)) ∧ BoxL (T + n + 3 * i) l')
      (fun _ _ _ _ => trivial) (fun i y ρ μ' N' hy hQ hN => ?_) (fun ρ μ' hQ => ?_) ⟨l1, es, _, _, _, rfl, hel, hg, rfl, hB1⟩
    · obtain ⟨l', es, q5, q9, q10, rfl, hel, hg, rfl, hB'⟩ := hQ
      obtain ⟨rfl, hin⟩ := rg_get hy
      have mb : updM (updM μ b (.lst l')) p (.lst (es.map edgeD)) b = some (.lst l') := by rw [updM_ne hbp.symm, updM_same]
      refine sGh_i (sSeq_i ⟨[.loc b, .int n], rfl, rfl, b, l', _, n, rfl, mb, hB', by omega, hn2, by omega, fun a v l2 ha hv hav hB2 => ?_⟩)
      rw [updM_swap hbp, updM_twice]
      have mb2 : updM (updM μ b (.lst l2)) p (.lst (es.map edgeD)) b = some (.lst l2) := by rw [updM_ne hbp.symm, updM_same]
      refine ⟨[.int a, .int v], rfl, rfl, rfl, ?_⟩
      obtain ⟨t, ht, ht1, ht2⟩ := most_ix (μ := updM (updM μ b (.lst l2)) p (.lst (es.map edgeD))) (ρ := [some (.loc b), w, some (.int u), some (.int n), some (.loc p), some (.int i), some (.int c), some (.int m), some (.lst ys), some (.int a), some (.int v)]) hm rfl
      refine ⟨.loc p, rfl, ⟨_, itemsL_loc updM_same⟩, .int a, rfl, .int v, rfl, .int u, rfl, [.loc b, .int t], c_cons (d := .loc b) rfl (c_cons ht c_nil), rfl, b, l2, _, t, rfl, mb2, hB2, by omega, ht1, by omega, fun r l3 hr hB3 => ?_⟩
      rw [updM_swap hbp, updM_twice]
      have hlo := len_ok hu hr ht2
      refine ⟨.int (u * r), mul_ok' (by omega), [], rfl, by show (3 : Nat) ≤ 100000; omega, [], rfl, lstAt_i updM_same ⟨by rw [List.length_map]; omega, ?_⟩⟩
      rw [updM_twice]
      refine GhS.done (hN _ _ ⟨l3, es ++ [(a, v, u * r)], _, _, _, rfl, by rw [List.length_append, List.length_singleton, hel]; omega, fun e he => ?_, by rw [List.map_append]; rfl, hB3.mono (by omega)⟩)
      rcases List.mem_append.mp he with he | he
      · exact hg e he
      · rw [List.mem_singleton] at he
        subst he
        exact ⟨ha, hv, hav, hlo.1, hlo.2⟩
    · obtain ⟨l', es, q5, q9, q10, rfl, hel, hg, rfl, hB'⟩ := hQ
      rw [rg_len] at hel hB'
      have hlen : es.length ≤ 120 := by omega
      have hso := sorted_edges (μ := updM (updM μ b (.lst l')) p (.lst (es.map edgeD))) (x := .loc p) (E := es) (itemsL_loc updM_same) (by omega)
      refine ⟨roadsD n (sortE es), ?_, GhV.drop (updM μ b (.lst l')) (Ext.new (Ext.refl _) (by rw [updM_ne hbp]; exact hp0)) (GhV.done (hk _ l' (sort_map hn2 hn hlen hg) ?_ (fun e he => (hg e ((sortE_perm es).mem_iff.mp he)).2.2.2.2) (hB'.mono (by omega))))⟩
      · refine eN_i (c_cons (d := .int n) rfl (c_cons (eN_i (c_cons (eN_i (c_cons (d := .loc p) rfl c_nil) hso) c_nil) rfl) c_nil)) ?_
        rfl
      · rw [(sortE_perm es).length_eq]
        omega
theorem sem__law_roads (ds : List D) (μ : Mu) (kont : DK) (h : S__law_roads ds μ kont) : bd__law_roads S__law_mixed S__law_take S__law_two { nx := fun _ μ' => GhV kont .non μ', rt := GhV kont } (startD N__law_roads ds) μ := by
  obtain ⟨b, l, T, wide, u, rfl, hb, hB, hT, hu, hu2, hk⟩ := h
  unfold bd__law_roads
  have rgl : ∀ (n : Nat) (ρ : Ro) (μ' : Mu), n ≤ 20 → slot ρ 3 = some (.int n) → e1 (fun μ x => gRg μ [x]) (eV 3) ρ μ' = some (.lst (rgD 0 n)) := fun n ρ μ' hn h3 => by
    refine e1_i (x := .int n) h3 ?_
    show (if (n : Int) ≤ 100000 ∧ -100000 ≤ (n : Int) then some (D.lst (rgD 0 (n : Int).toNat)) else none) = _
    rw [if_pos ⟨by omega, by omega⟩, Int.toNat_natCast]
  cases wide with
  | true =>
    refine sSeq_i ⟨true, rfl, if_yes ⟨.int (20 : Nat), rfl, sSeq_i ⟨true, rfl, if_yes ?_⟩⟩⟩
    refine ⟨.int 100, rfl, [.loc b, .int (21 : Nat)], rfl, rfl, b, l, T, 21, rfl, hb, hB, by omega, by decide, by decide, fun r1 l1 hr1 hB1 => ?_⟩
    refine ⟨.int (100 + r1), rfl, [.loc b, .int (3 : Nat)], rfl, rfl, b, l1, T + 1, 3, rfl, updM_same, hB1, by omega, by decide, by decide, fun r2 l2 hr2 hB2 => ?_⟩
    rw [updM_twice]
    refine ⟨[.loc b, .lst (rgD 0 20)], c_cons (d := .loc b) rfl (c_cons (rgl 20 _ _ (by decide) rfl) c_nil), rfl, b, l2, T + 2, rgD 0 20, rfl, updM_same, hB2, by omega, by rw [rg_len]; decide, fun ys l3 hys hB3 => ?_⟩
    rw [updM_twice]
    rw [rg_len] at hB3
    refine ⟨[], rfl, by show (3 : Nat) ≤ 100000; omega, [.int (100 + r1), .int r2, .lst ys], rfl, rfl, rfl, ?_⟩
    have := roads_rest (kont := kont) (w := some (.bl true)) (c := 100 + r1) (r5 := none) (μ := updM μ b (.lst l3)) updM_same hB3 (by omega) (by decide) (by decide) (by omega) hr2 hu hys (fun E l' h1 h2 h3 h4 => by
      rw [updM_twice]
      exact hk 20 E l' (by decide) h1 h2 h3 (h4.mono (by omega)))
    exact this
  | false =>
    refine sSeq_i ⟨false, rfl, if_no ⟨.int 2, rfl, [.loc b, .int (7 : Nat)], rfl, rfl, b, l, T, 7, rfl, hb, hB, by omega, by decide, by decide, fun r0 l0 hr0 hB0 => ?_⟩⟩
    refine ⟨.int ((2 + r0 : Nat) : Int), rfl, sSeq_i ⟨false, rfl, if_no ?_⟩⟩
    refine ⟨.int (((2 + r0 : Nat) : Int) + 1), rfl, [.loc b, .int (9 : Nat)], rfl, rfl, b, l0, T + 1, 9, rfl, updM_same, hB0, by omega, by decide, by decide, fun r1 l1 hr1 hB1 => ?_⟩
    rw [updM_twice]
    refine ⟨.int ((3 + r0 + r1 : Nat) : Int), ?_, [.loc b, .int (3 : Nat)], rfl, rfl, b, l1, T + 2, 3, rfl, updM_same, hB1, by omega, by decide, by decide, fun r2 l2 hr2 hB2 => ?_⟩
    · show some (D.int (((2 + r0 : Nat) : Int) + 1 + r1)) = _
      congr 2
      omega
    rw [updM_twice]
    refine ⟨[.loc b, .lst (rgD 0 (2 + r0))], c_cons (d := .loc b) rfl (c_cons (rgl (2 + r0) _ _ (by omega) rfl) c_nil), rfl, b, l2, T + 3, rgD 0 (2 + r0), rfl, updM_same, hB2, by omega, by rw [rg_len]; omega, fun ys l3 hys hB3 => ?_⟩
    rw [updM_twice]
    rw [rg_len] at hB3
    refine ⟨[], rfl, by show (3 : Nat) ≤ 100000; omega, [.int ((3 + r0 + r1 : Nat) : Int), .int r2, .lst ys], rfl, rfl, rfl, ?_⟩
    have := roads_rest (kont := kont) (w := some (.bl false)) (c := 3 + r0 + r1) (r5 := none) (μ := updM μ b (.lst l3)) updM_same hB3 (by omega) (by omega) (by omega) (by omega) hr2 hu hys (fun E l' h1 h2 h3 h4 => by
      rw [updM_twice]
      exact hk (2 + r0) E l' (by omega) h1 h2 h3 (h4.mono (by omega)))
    exact this
end K60
end

section
set_option maxRecDepth 100000
/-! S21: the map now; bounds. -/
namespace K60
open PySem PySem.Spec PyProof.Rows L2 DL Wl
section
variable {μ : Mu}
theorem ix_items {y : D} {xs : List D} {j : Nat} {d : D} (h : items μ y = some xs) (hj : xs[j]? = some d) : gIx μ y (.int (j : Int)) = some d := by
  cases y <;> first | (simp only [gIx, h]; exact atI_nat hj) | cases h
theorem len_items {y : D} {xs : List D} (h : items μ y = some xs) : gLen μ [y] = some (.int xs.length) := by
  cases y with
  | str _ => cases h
  | _ => simp only [gLen, h]
def ends (t : Nat × Nat × Option Int) : Nat × Nat := (t.1, t.2.1)
theorem map_now_eq {n : Nat} {E : List Edge} {ts : List Ty} {y : D} (hy : items μ y = some (ts.map fun t => oD t.2.2)) (he : E.map (fun e => (e.1, e.2.1)) = ts.map ends) (hl : ts.length ≤ 1000) : G__law_map_now μ [roadsD n E, y] = some (roadsD n (sortE (pres ts))) := by
  have hel : E.length = ts.length := by
    have := congrArg List.length he
    rw [List.length_map, List.length_map] at this
    exact this
  have elen : eN gLen (eCons (eV 1) eNil) [some (roadsD n E), some y, none] μ = some (.int ts.length) := by
    refine eN_i (c_cons (d := y) rfl c_nil) ?_
    rw [len_items hy, List.length_map]
  have key : lcGo (egName 2) (eTst (e2 (gIs true) (e2 gIx (eV 1) (eV 2)) (eC .non))) (eN DL.gTup (eCons (e2 gIx (e2 gIx (e2 gIx (eV 0) (eC (.int 1))) (eV 2)) (eC (.int 0))) (eCons (e2 gIx (e2 gIx (e2 gIx (eV 0) (eC (.int 1))) (eV 2)) (eC (.int 1))) (eCons (e2 gIx (eV 1) (eV 2)) eNil)))) [some (roadsD n E), some y, none] μ ((List.range ts.length).map fun (i : Nat) => D.int (0 + (i : Int))) = some (((List.range ts.length).filter fun i => (ts.getD i (0, 0, none)).2.2.isSome).map fun i => tieD (ts.getD i (0, 0, none))) := by
    refine lcGo_filter (fun (i : Nat) => D.int (0 + (i : Int))) (fun i => (ts.getD i (0, 0, none)).2.2.isSome) (fun i => tieD (ts.getD i (0, 0, none))) _ fun i hi => ⟨[some (roadsD n E), some y, some (.int (0 + (i : Int)))], rfl, ?_, fun _ => ?_⟩
    · rw [List.mem_range] at hi
      have ht : ts[i]? = some (ts.getD i (0, 0, none)) := by rw [List.getD_eq_getElem?_getD, List.getElem?_eq_getElem hi]; rfl
      rw [Int.zero_add]
      have h1 : gIx μ y (.int (i : Int)) = some (oD (ts.getD i (0, 0, none)).2.2) := ix_items hy (by rw [List.getElem?_map, ht]; rfl)
      refine tst_i (e2_i (e2_i (x := y) rfl (y := .int i) rfl h1) rfl ?_)
      simp only [gIs, oD_isN]
      cases (ts.getD i (0, 0, none)).2.2 <;> rfl
    · rw [List.mem_range] at hi
      have ht : ts[i]? = some (ts.getD i (0, 0, none)) := by rw [List.getD_eq_getElem?_getD, List.getElem?_eq_getElem hi]; rfl
      rw [Int.zero_add]
      have h1 : gIx μ y (.int (i : Int)) = some (oD (ts.getD i (0, 0, none)).2.2) := ix_items hy (by rw [List.getElem?_map, ht]; rfl)
      have hi2 : i < E.length := by omega
      have hE : E[i]? = some E[i] := List.getElem?_eq_getElem hi2
      have hends : (E[i].1, E[i].2.1) = ends (ts.getD i (0, 0, none)) := by
        have := congrArg (fun l => l[i]?) he
        simp only [List.getElem?_map, hE, ht, Option.map_some, Option.some.injEq] at this
        exact this
      have hen1 : E[i].1 = (ts.getD i (0, 0, none)).1 := congrArg (·.1) hends
      have hen2 : E[i].2.1 = (ts.getD i (0, 0, none)).2.1 := congrArg (·.2) hends
      have hr : e2 gIx (e2 gIx (eV 0) (eC (.int 1))) (eV 2) [some (roadsD n E), some y, some (.int (i : Int))] μ = some (edgeD E[i]) := by
        refine e2_i (e2_i (x := roadsD n E) rfl (y := .int 1) rfl (ix_tup (j := 1) rfl)) (y := .int i) rfl (ix_tup ?_)
        rw [List.getElem?_map, hE]
        rfl
      refine eN_i (c_cons (e2_i hr (y := .int 0) rfl (ix_tup (j := 0) rfl)) (c_cons (e2_i hr (y := .int 1) rfl (ix_tup (j := 1) rfl)) (c_cons (e2_i (x := y) rfl (y := .int i) rfl h1) c_nil))) ?_
      rw [hen1, hen2]
      rfl
  have eq : ((List.range ts.length).filter fun i => (ts.getD i (0, 0, none)).2.2.isSome).map (fun i => tieD (ts.getD i (0, 0, none))) = (pres ts).map edgeD := by
    have h0 : ts = (List.range ts.length).map fun i => ts.getD i (0, 0, none) := by
      apply List.ext_getElem?
      intro i
      by_cases hi : i < ts.length
      · rw [List.getElem?_map, List.getElem?_range hi, List.getElem?_eq_getElem hi]
        show _ = some (ts.getD i (0, 0, none))
        rw [List.getD_eq_getElem?_getD, List.getElem?_eq_getElem hi]
        rfl
      · rw [List.getElem?_eq_none (by omega), List.getElem?_eq_none (by rw [List.length_map, List.length_range]; omega)]
    have h1 := pres_map ts
    rw [← h1]
    have h2 : (ts.filter fun t => t.2.2.isSome) = (((List.range ts.length).map fun i => ts.getD i (0, 0, none)).filter fun t => t.2.2.isSome) := by rw [← h0]
    rw [h2, List.filter_map, List.map_map]
    rfl
  rw [eq] at key
  have elc : eLc (ipRg1 (eCons (eN gLen (eCons (eV 1) eNil)) eNil)) (egName 2) (eTst (e2 (gIs true) (e2 gIx (eV 1) (eV 2)) (eC .non))) (eN DL.gTup (eCons (e2 gIx (e2 gIx (e2 gIx (eV 0) (eC (.int 1))) (eV 2)) (eC (.int 0))) (eCons (e2 gIx (e2 gIx (e2 gIx (eV 0) (eC (.int 1))) (eV 2)) (eC (.int 1))) (eCons (e2 gIx (eV 1) (eV 2)) eNil)))) [2] [some (roadsD n E), some y, none] μ = some (.lst ((pres ts).map edgeD)) := by
    have h1 : ipRg1 (eCons (eN gLen (eCons (eV 1) eNil)) eNil) [some (roadsD n E), some y, none] μ = some ((List.range ts.length).map fun (i : Nat) => D.int (0 + (i : Int))) := by
      have h4 : ((ts.length : Nat) : Int) ≤ 100000 := by omega
      have h5 : (-100000 : Int) ≤ ((ts.length : Nat) : Int) := by omega
      simp only [ipRg1, eCons, eNil, elen, Option.bind_some, h4, h5, and_self, if_true, rgD, Int.toNat_natCast]
    have h2 : ((List.range ts.length).map fun (i : Nat) => D.int (0 + (i : Int))).length ≤ 100000 := by
      rw [List.length_map, List.length_range]
      omega
    simp only [eLc, h1, Option.bind_some, h2, if_true, unsetAll, setS, key]
  have hpl := pres_len ts
  refine g_ret (z_ret (eN_i (c_cons (e2_i (x := roadsD n E) rfl (y := .int 0) rfl (ix_tup (j := 0) rfl)) (c_cons (eN_i (c_cons (eN_i (c_cons elc c_nil) (sorted_edges (x := .lst ((pres ts).map edgeD)) rfl (by omega))) c_nil) rfl) c_nil)) ?_))
  rfl
/-! ### bounds -/
theorem zFor_all {g : EvG} {b : EvS} (P : Ro → Prop) : ∀ (ds : List D) (ρ : Ro), (∀ x ∈ ds, ∀ ρ, P ρ → ∃ ρ1 ρ2, g x ρ μ = some ρ1 ∧ b ρ1 μ = some (.nx ρ2) ∧ P ρ2) → P ρ → ∃ ρ', zForGo g b μ ds ρ = some (.nx ρ') ∧ P ρ'
  | [], ρ, _, h => ⟨ρ, rfl, h⟩
  | x :: r, ρ, hx, h => by
    obtain ⟨ρ1, ρ2, h1, h2, h3⟩ := hx x List.mem_cons_self ρ h
    obtain ⟨ρ', h4, h5⟩ := zFor_all P r ρ2 (fun y hy => hx y (List.mem_cons_of_mem _ hy)) h3
    refine ⟨ρ', ?_, h5⟩
    simp only [zForGo, h1, h2, h4]
theorem zFor_i {ip : EvI} {g : EvG} {b : EvS} {ρ : Ro} {ds : List D} {r : Option Fw} (h : ip ρ μ = some ds) (h2 : zForGo g b μ ds ρ = r) : zFor ip g b ρ μ = r := by simp only [zFor, h, h2]
def BdOk (old new lo hi : Option Int) : Prop := (lo = none → new ≠ none → old ≠ none → hi = none) ∧ (∀ x, lo = some x → ∃ y, hi = some y ∧ y ≤ x) ∧ ∀ x y m l, lo = some x → hi = some y → new = some m → old = some l → x - y ≤ (if m - l < 0 then -(m - l) else m - l)
def bd_in : EvS := zIf (eAndT (eTst (e2 (gIs false) (eV 6) (eC .non))) (eAndT (eTst (e2 (gIs true) (eV 3) (eC .non))) (eTst (e2 (gIs true) (eV 2) (eC .non))))) (zIf (eTst (e2 (gIs true) (eV 7) (eC .non))) (zRet (eC (.bl false))) zNext) (zIf (eAndT (eTst (e2 (gIs true) (eV 6) (eC .non))) (eOrT (eTst (e2 (gIs false) (eV 7) (eC .non))) (eTst (e2 (gCmpI fun i j => decide (i < j)) (eV 6) (eV 7))))) (zRet (eC (.bl false))) (zIf (eAndT (eTst (e2 (gIs true) (eV 6) (eC .non))) (eAndT (eTst (e2 (gIs true) (eV 3) (eC .non))) (eAndT (eTst (e2 (gIs true) (eV 2) (eC .non))) (eTst (e2 (gCmpI fun i j => decide (j < i)) (e2 (gArith fun i j => i - j) (eV 6) (eV 7)) (eN gAbs (eCons (e2 (gArith fun i j => i - j) (eV 3) (eV 2)) eNil))))))) (zRet (eC (.bl false))) zNext))
theorem is_o {i : Nat} {ρ : Ro} {o : Option Int} {neg : Bool} (h : slot ρ i = some (oD o)) : eTst (e2 (gIs neg) (eV i) (eC .non)) ρ μ = some (o.isNone != neg) := by
  refine tst_i (e2_i (x := oD o) h rfl ?_)
  simp only [gIs, oD_isN]
theorem bd_in_ok {A B i j : Option D} {old new lo hi : Option Int} (h : BdOk old new lo hi) : bd_in [A, B, some (oD old), some (oD new), i, j, some (oD lo), some (oD hi)] μ = some (.nx [A, B, some (oD old), some (oD new), i, j, some (oD lo), some (oD hi)]) := by
  obtain ⟨h1, h2, h3⟩ := h
  unfold bd_in
  have s6 : ∀ neg, eTst (e2 (gIs neg) (eV 6) (eC .non)) [A, B, some (oD old), some (oD new), i, j, some (oD lo), some (oD hi)] μ = some (lo.isNone != neg) := fun neg => is_o rfl
  have s7 : ∀ neg, eTst (e2 (gIs neg) (eV 7) (eC .non)) [A, B, some (oD old), some (oD new), i, j, some (oD lo), some (oD hi)] μ = some (hi.isNone != neg) := fun neg => is_o rfl
  have s3 : ∀ neg, eTst (e2 (gIs neg) (eV 3) (eC .non)) [A, B, some (oD old), some (oD new), i, j, some (oD lo), some (oD hi)] μ = some (new.isNone != neg) := fun neg => is_o rfl
  have s2 : ∀ neg, eTst (e2 (gIs neg) (eV 2) (eC .non)) [A, B, some (oD old), some (oD new), i, j, some (oD lo), some (oD hi)] μ = some (old.isNone != neg) := fun neg => is_o rfl
  cases lo with
  | none =>
    have a6 : ∀ c : EvT, eAndT (eTst (e2 (gIs true) (eV 6) (eC .non))) c [A, B, some (oD old), some (oD new), i, j, some (oD none), some (oD hi)] μ = some false := fun c => and_f (s6 true)
    by_cases hno : new ≠ none ∧ old ≠ none
    · have hh := h1 rfl hno.1 hno.2
      subst hh
      have hn : (new.isNone != true) = true := by
        cases new with
        | none => exact absurd rfl hno.1
        | some _ => rfl
      have ho : (old.isNone != true) = true := by
        cases old with
        | none => exact absurd rfl hno.2
        | some _ => rfl
      have a3 := s3 true
      have a2 := s2 true
      rw [hn] at a3
      rw [ho] at a2
      exact z_ift (and_t (s6 false) (and_t a3 a2)) (z_iff (s7 true) rfl)
    · have t2 : eAndT (eTst (e2 (gIs false) (eV 6) (eC .non))) (eAndT (eTst (e2 (gIs true) (eV 3) (eC .non))) (eTst (e2 (gIs true) (eV 2) (eC .non)))) [A, B, some (oD old), some (oD new), i, j, some (oD none), some (oD hi)] μ = some false := by
        refine and_t (s6 false) ?_
        cases new with
        | none => exact and_f (s3 true)
        | some _ =>
          cases old with
          | none => exact and_t (s3 true) (s2 true)
          | some _ => exact absurd ⟨by simp, by simp⟩ hno
      exact z_iff t2 (z_iff (a6 _) (z_iff (a6 _) rfl))
  | some x =>
    obtain ⟨y, rfl, hyx⟩ := h2 x rfl
    have t2 : eAndT (eTst (e2 (gIs false) (eV 6) (eC .non))) (eAndT (eTst (e2 (gIs true) (eV 3) (eC .non))) (eTst (e2 (gIs true) (eV 2) (eC .non)))) [A, B, some (oD old), some (oD new), i, j, some (oD (some x)), some (oD (some y))] μ = some false := and_f (s6 false)
    have t3 : eAndT (eTst (e2 (gIs true) (eV 6) (eC .non))) (eOrT (eTst (e2 (gIs false) (eV 7) (eC .non))) (eTst (e2 (gCmpI fun i j => decide (i < j)) (eV 6) (eV 7)))) [A, B, some (oD old), some (oD new), i, j, some (oD (some x)), some (oD (some y))] μ = some false := by
      refine and_t (s6 true) (or_f (s7 false) (tst_i (e2_i (x := .int x) rfl (y := .int y) rfl ?_)))
      rw [lt_i, decide_eq_false (by omega)]
    have t4 : eAndT (eTst (e2 (gIs true) (eV 6) (eC .non))) (eAndT (eTst (e2 (gIs true) (eV 3) (eC .non))) (eAndT (eTst (e2 (gIs true) (eV 2) (eC .non))) (eTst (e2 (gCmpI fun i j => decide (j < i)) (e2 (gArith fun i j => i - j) (eV 6) (eV 7)) (eN gAbs (eCons (e2 (gArith fun i j => i - j) (eV 3) (eV 2)) eNil)))))) [A, B, some (oD old), some (oD new), i, j, some (oD (some x)), some (oD (some y))] μ = some false := by
      refine and_t (s6 true) ?_
      cases new with
      | none => exact and_f (s3 true)
      | some m =>
        refine and_t (s3 true) ?_
        cases old with
        | none => exact and_f (s2 true)
        | some l =>
          refine and_t (s2 true) (tst_i (e2_i (e2_i (x := .int x) rfl (y := .int y) rfl rfl) (eN_i (c_cons (e2_i (x := .int m) rfl (y := .int l) rfl rfl) c_nil) rfl) ?_))
          have := h3 x y m l rfl rfl rfl rfl
          rw [gt_i, decide_eq_false (show ¬ ((if m - l < 0 then -(m - l) else m - l) < x - y) by omega)]
    exact z_iff t2 (z_iff t3 (z_iff t4 rfl))
def swO (old new : Option Int) : Bool := match old, new with
  | none, _ => true
  | some _, none => false
  | some l, some m => decide (m < l)
def G__law_bounded  : Mu → List D → Option D := gOf N__law_bounded (ev__law_bounded  )
theorem bounded_of {n : Nat} {E E' : List Edge} {old new : Option Int} (hn : n ≤ 1000) (h : ∀ s t, s < n → t < n → if swO old new = true then BdOk old new (dist E s t) (dist E' s t) else BdOk old new (dist E' s t) (dist E s t)) :
    G__law_bounded μ [tabT (tab n E), tabT (tab n E'), oD old, oD new] = some (.bl true) := by
  have elen : ∀ ρ : Ro, slot ρ 0 = some (tabT (tab n E)) → ipRg1 (eCons (eN gLen (eCons (eV 0) eNil)) eNil) ρ μ = some (rgD 0 n) := fun ρ h0 => by
    have h1 : eN gLen (eCons (eV 0) eNil) ρ μ = some (.int n) := by
      refine eN_i (c_cons (d := tabT (tab n E)) h0 c_nil) ?_
      show some (D.int (((tab n E).map rowT).length : Nat)) = _
      rw [List.length_map, tab_len]
    have h4 : ((n : Nat) : Int) ≤ 100000 := by omega
    have h5 : (-100000 : Int) ≤ ((n : Nat) : Int) := by omega
    simp only [ipRg1, eCons, eNil, h1, Option.bind_some, h4, h5, and_self, if_true, Int.toNat_natCast]
  have inner : ∀ (s : Nat), s < n → ∀ x ∈ rgD 0 n, ∀ ρ, (∃ i5 i6 i7, ρ = [some (tabT (tab n E)), some (tabT (tab n E')), some (oD old), some (oD new), some (.int s), i5, i6, i7]) → ∃ ρ1 ρ2, egName 5 x ρ μ = some ρ1 ∧ (zSeq (zPar 6 7 (eCons (e2 gIx (e2 gIx (eV 1) (eV 4)) (eV 5)) (eCons (e2 gIx (e2 gIx (eV 0) (eV 4)) (eV 5)) eNil))) (zSeq (zIf (eOrT (eTst (e2 (gIs false) (eV 2) (eC .non))) (eAndT (eTst (e2 (gIs true) (eV 3) (eC .non))) (eTst (e2 (gCmpI fun i j => decide (i < j)) (eV 3) (eV 2))))) (zPar 6 7 (eCons (eV 7) (eCons (eV 6) eNil))) zNext) bd_in)) ρ1 μ = some (.nx ρ2) ∧ ∃ i5 i6 i7, ρ2 = [some (tabT (tab n E)), some (tabT (tab n E')), some (oD old), some (oD new), some (.int s), i5, i6, i7] := fun s hs x hx ρ hP => by
    obtain ⟨i5, i6, i7, rfl⟩ := hP
    obtain ⟨t, rfl, ht⟩ := mem_rg hx
    have e1' : e2 gIx (e2 gIx (eV 1) (eV 4)) (eV 5) [some (tabT (tab n E)), some (tabT (tab n E')), some (oD old), some (oD new), some (.int s), some (.int t), i6, i7] μ = some (oD (dist E' s t)) := e2_i (e2_i (x := tabT (tab n E')) rfl (y := .int s) rfl (ix_tab hs)) (y := .int t) rfl (ix_row ht)
    have e0' : e2 gIx (e2 gIx (eV 0) (eV 4)) (eV 5) [some (tabT (tab n E)), some (tabT (tab n E')), some (oD old), some (oD new), some (.int s), some (.int t), i6, i7] μ = some (oD (dist E s t)) := e2_i (e2_i (x := tabT (tab n E)) rfl (y := .int s) rfl (ix_tab hs)) (y := .int t) rfl (ix_row ht)
    have ts : eOrT (eTst (e2 (gIs false) (eV 2) (eC .non))) (eAndT (eTst (e2 (gIs true) (eV 3) (eC .non))) (eTst (e2 (gCmpI fun i j => decide (i < j)) (eV 3) (eV 2)))) [some (tabT (tab n E)), some (tabT (tab n E')), some (oD old), some (oD new), some (.int s), some (.int t), some (oD (dist E' s t)), some (oD (dist E s t))] μ = some (swO old new) := by
      cases old with
      | none => exact or_t (is_o (o := none) rfl)
      | some l =>
        refine or_f (is_o (o := some l) rfl) ?_
        cases new with
        | none => exact and_f (is_o (o := none) rfl)
        | some m => exact and_t (is_o (o := some m) rfl) (tst_i (e2_i (x := .int m) rfl (y := .int l) rfl lt_i))
    have hh := h s t hs ht
    cases hsw : swO old new with
    | true =>
      rw [hsw] at ts
      rw [hsw, if_pos rfl] at hh
      refine ⟨_, _, rfl, z_seq (z_par (c_cons e1' (c_cons e0' c_nil))) (z_seq (z_ift ts (z_par (x := oD (dist E s t)) (y := oD (dist E' s t)) (c_cons (d := oD (dist E s t)) rfl (c_cons (d := oD (dist E' s t)) rfl c_nil)))) (bd_in_ok hh)), _, _, _, rfl⟩
    | false =>
      rw [hsw] at ts
      rw [hsw, if_neg Bool.false_ne_true] at hh
      refine ⟨_, _, rfl, z_seq (z_par (c_cons e1' (c_cons e0' c_nil))) (z_seq (z_iff ts rfl) (bd_in_ok hh)), _, _, _, rfl⟩
  have outer : ∀ x ∈ rgD 0 n, ∀ ρ, (∃ i4 i5 i6 i7, ρ = [some (tabT (tab n E)), some (tabT (tab n E')), some (oD old), some (oD new), i4, i5, i6, i7]) → ∃ ρ1 ρ2, egName 4 x ρ μ = some ρ1 ∧ (zFor (ipRg1 (eCons (eN gLen (eCons (eV 0) eNil)) eNil)) (egName 5) (zSeq (zPar 6 7 (eCons (e2 gIx (e2 gIx (eV 1) (eV 4)) (eV 5)) (eCons (e2 gIx (e2 gIx (eV 0) (eV 4)) (eV 5)) eNil))) (zSeq (zIf (eOrT (eTst (e2 (gIs false) (eV 2) (eC .non))) (eAndT (eTst (e2 (gIs true) (eV 3) (eC .non))) (eTst (e2 (gCmpI fun i j => decide (i < j)) (eV 3) (eV 2))))) (zPar 6 7 (eCons (eV 7) (eCons (eV 6) eNil))) zNext) bd_in))) ρ1 μ = some (.nx ρ2) ∧ ∃ i4 i5 i6 i7, ρ2 = [some (tabT (tab n E)), some (tabT (tab n E')), some (oD old), some (oD new), i4, i5, i6, i7] := fun x hx ρ hP => by
    obtain ⟨i4, i5, i6, i7, rfl⟩ := hP
    obtain ⟨s, rfl, hs⟩ := mem_rg hx
    obtain ⟨ρ', h1, q5, q6, q7, rfl⟩ := zFor_all (μ := μ) (g := egName 5) _ (rgD 0 n) _ (inner s hs) ⟨i5, i6, i7, rfl⟩
    refine ⟨[some (tabT (tab n E)), some (tabT (tab n E')), some (oD old), some (oD new), some (.int s), i5, i6, i7], _, rfl, ?_, some (.int s), q5, q6, q7, rfl⟩
    exact zFor_i (elen _ rfl) h1
  obtain ⟨ρ', h1, q4, q5, q6, q7, rfl⟩ := zFor_all (μ := μ) (g := egName 4) _ (rgD 0 n) [some (tabT (tab n E)), some (tabT (tab n E')), some (oD old), some (oD new), none, none, none, none] outer ⟨_, _, _, _, rfl⟩
  have hf : zFor (ipRg1 (eCons (eN gLen (eCons (eV 0) eNil)) eNil)) (egName 4) (zFor (ipRg1 (eCons (eN gLen (eCons (eV 0) eNil)) eNil)) (egName 5) (zSeq (zPar 6 7 (eCons (e2 gIx (e2 gIx (eV 1) (eV 4)) (eV 5)) (eCons (e2 gIx (e2 gIx (eV 0) (eV 4)) (eV 5)) eNil))) (zSeq (zIf (eOrT (eTst (e2 (gIs false) (eV 2) (eC .non))) (eAndT (eTst (e2 (gIs true) (eV 3) (eC .non))) (eTst (e2 (gCmpI fun i j => decide (i < j)) (eV 3) (eV 2))))) (zPar 6 7 (eCons (eV 7) (eCons (eV 6) eNil))) zNext) bd_in))) [some (tabT (tab n E)), some (tabT (tab n E')), some (oD old), some (oD new), none, none, none, none] μ = some (.nx [some (tabT (tab n E)), some (tabT (tab n E')), some (oD old), some (oD new), q4, q5, q6, q7]) := zFor_i (elen _ rfl) h1
  exact g_ret (z_seq hf (z_ret rfl))
end
end K60
end

section
set_option maxRecDepth 100000
/-! S22: bounds for a changed tie; as anew. -/
namespace K60
open PySem PySem.Spec PyProof.Rows L2 DL Wl
section
variable {μ : Mu} {ts : List Ty} {i a b n : Nat} {old new : Option Int}
def exR (R : List Edge) (a b : Nat) (o : Option Int) : List Edge := match o with
  | none => R
  | some l => (a, b, l) :: R
theorem dist_ex (hi : i < ts.length) {o : Option Int} (wr : Wf n (pres (ts.set i (a, b, none)))) (ha : a < n) (hb : b < n) (ho : ∀ l, o = some l → 0 ≤ l) (s t : Nat) : dist (pres (ts.set i (a, b, o))) s t = dist (exR (pres (ts.set i (a, b, none))) a b o) s t := by
  cases o with
  | none => rfl
  | some l => exact dist_iff (Wf.cons wr ha hb (ho l rfl)) (fun e => (pres_set hi e).symm) s t
theorem bounded_ts (h : ts[i]? = some (a, b, old)) (tw : Tw n ts) (hn : n ≤ 1000) (ho : ∀ l, new = some l → 0 ≤ l ∧ l < 10 ^ 100) : G__law_bounded μ [tbD n ts, tbD n (ts.set i (a, b, new)), oD old, oD new] = some (.bl true) := by
  have hi := (List.getElem?_eq_some_iff.mp h).1
  have hab := tw _ (List.mem_of_getElem? h)
  have wr := wf_out h tw.wf
  have d0 : ∀ s t, dist (pres ts) s t = dist (exR (pres (ts.set i (a, b, none))) a b old) s t := fun s t => by
    have := dist_ex (o := old) hi wr hab.1 hab.2.1 (fun l hl => (hab.2.2.2 l hl).1) s t
    rw [set_same h] at this
    exact this
  have d1 : ∀ s t, dist (pres (ts.set i (a, b, new))) s t = dist (exR (pres (ts.set i (a, b, none))) a b new) s t := fun s t => dist_ex (o := new) hi wr hab.1 hab.2.1 (fun l hl => (ho l hl).1) s t
  refine bounded_of hn fun s t hs ht => ?_
  rw [d0, d1]
  cases old with
  | none =>
    refine if_yes ⟨fun _ _ h => absurd rfl h, ?_, fun x y m l _ _ _ h => by cases h⟩
    cases new with
    | none => exact fun x hx => ⟨x, hx, Int.le_refl _⟩
    | some m => exact cmp_out (ho m rfl).1 wr hab.1 hab.2.1 s t
  | some l =>
    have hl0 := (hab.2.2.2 l rfl).1
    cases new with
    | none => exact if_no ⟨fun _ h => absurd rfl h, cmp_out hl0 wr hab.1 hab.2.1 s t, fun x y m l _ _ h => by cases h⟩
    | some m =>
      have hm0 := (ho m rfl).1
      by_cases hlt : m < l
      · have e : swO (some l) (some m) = true := decide_eq_true hlt
        rw [e]
        obtain ⟨c1, c2⟩ := cmp_two hm0 (by omega : m ≤ l) wr hab.1 hab.2.1 s t
        refine if_yes ⟨fun h _ _ => c2 h, fun x hx => ?_, fun x y m' l' hx hy h1 h2 => ?_⟩
        · obtain ⟨y, h3, h4, _⟩ := c1 x hx
          exact ⟨y, h3, h4⟩
        · cases h1
          cases h2
          obtain ⟨y', h3, h4, h5⟩ := c1 x hx
          have : some y = some y' := hy.symm.trans h3
          cases this
          split <;> omega
      · have e : swO (some l) (some m) = false := decide_eq_false hlt
        rw [e]
        obtain ⟨c1, c2⟩ := cmp_two hl0 (by omega : l ≤ m) wr hab.1 hab.2.1 s t
        refine if_no ⟨fun h _ _ => c2 h, fun x hx => ?_, fun x y m' l' hx hy h1 h2 => ?_⟩
        · obtain ⟨y, h3, h4, _⟩ := c1 x hx
          exact ⟨y, h3, h4⟩
        · cases h1
          cases h2
          obtain ⟨y', h3, h4, h5⟩ := c1 x hx
          have : some y = some y' := hy.symm.trans h3
          cases this
          split <;> omega
end
theorem Wat.n3 {C : Addr} {μ : Mu} {p q : Addr} {W : WS} (h : Wat C μ p q W) : W.n ≤ 1000 := Nat.le_trans h.n2 (by decide)
theorem mt_sort {C : Addr} {μ : Mu} {p q : Addr} {W : WS} (h : Wat C μ p q W) : Mt W.n (sortE (pres W.ts)) := by
  have mem : ∀ e, e ∈ sortE (pres W.ts) → ∃ t ∈ W.ts, t.1 = e.1 ∧ t.2.1 = e.2.1 ∧ t.2.2 = some e.2.2 := fun e he => by
    have h1 := (sortE_perm (pres W.ts)).mem_iff.mp he
    unfold pres at h1
    obtain ⟨t, ht, h2⟩ := List.mem_filterMap.mp h1
    obtain ⟨a, b, o⟩ := t
    cases o with
    | none => cases h2
    | some l =>
      cases h2
      exact ⟨_, ht, rfl, rfl, rfl⟩
  refine ⟨⟨h.n1, h.n2, by rw [(sortE_perm _).length_eq]; exact Nat.le_trans (pres_len _) h.tl, fun u v l he => ?_, fun u v l he => ?_, sortE_sorted _⟩, fun u v l he => ?_⟩
  · obtain ⟨t, ht, h1, h2, h3⟩ := mem _ he
    obtain ⟨a, b, o⟩ := t
    simp only at h1 h2 h3
    subst h1 h2 h3
    obtain ⟨w1, w2, _, w3⟩ := h.tw _ ht
    exact ⟨w1, w2, (w3 l rfl).1⟩
  · obtain ⟨t, ht, h1, h2, h3⟩ := mem _ he
    obtain ⟨a, b, o⟩ := t
    simp only at h1 h2 h3
    subst h1 h2 h3
    exact (h.tw _ ht).2.2.1
  · obtain ⟨t, ht, h1, h2, h3⟩ := mem _ he
    obtain ⟨a, b, o⟩ := t
    simp only at h1 h2 h3
    subst h1 h2 h3
    exact ((h.tw _ ht).2.2.2 l rfl).2
theorem tab_sort {n : Nat} {E : List Edge} (wf : Wf n E) : tab n (sortE E) = tab n E := tab_congr fun s t => dist_iff wf (fun e => ((sortE_perm E).mem_iff (a := e)).symm) s t
theorem pl_tb {n : Nat} {ts : List Ty} (h : n ≤ 1000) : Pl 2 (tbD n ts) := pl_tab h
/-- now: the lengths of the ties -/
def nowL (ts : List Ty) : List D := ts.map fun t => oD t.2.2
def EndsOk (E : List Edge) (ts : List Ty) : Prop := E.map (fun e => (e.1, e.2.1)) = ts.map ends
def S__law_as_anew (C : Addr) : DC := fun ds μ k => ∃ p q W E y, ds = [.loc p, roadsD W.n E, y, tbD W.n W.ts] ∧ Wat C μ p q W ∧ items μ y = some (nowL W.ts) ∧ EndsOk E W.ts ∧ k (.bl true) μ
theorem sem__law_as_anew (C : Addr) (ds : List D) (μ : Mu) (kont : DK) (h : S__law_as_anew C ds μ kont) :
    bd__law_as_anew (S_init C) (G_Watch_lengths C) (G_Watch_map C) G__law_map_now G__law_same G_lengths C { nx := fun _ μ' => GhV kont .non μ', rt := GhV kont } (startD N__law_as_anew ds) μ := by
  obtain ⟨p, q, W, E, y, rfl, hW, hy, hE, hk⟩ := h
  unfold bd__law_as_anew
  have hn := hW.n3
  have htl : W.ts.length ≤ 1000 := Nat.le_trans hW.tl (by decide)
  have hM := mt_sort hW
  have hmn := map_now_eq (μ := μ) (n := W.n) hy hE htl
  have hsl : (sortE (pres W.ts)).length ≤ 1000 := Nat.le_trans hM.map.m (by decide)
  refine sSeq_i ⟨.loc p, rfl, ⟨_, hW.mp, rfl⟩, rfl, roadsD W.n (sortE (pres W.ts)), watch_map_eq hW, sSeq_i ?_⟩
  have t1 : eNotT (eTst (eFn G__law_same [] 2 (eCons (eV 4) (eCons (eFn G__law_map_now [] 2 (eCons (eV 1) (eCons (eV 2) eNil))) eNil)))) [some (.loc p), some (roadsD W.n E), some y, some (tbD W.n W.ts), some (roadsD W.n (sortE (pres W.ts)))] μ = some false :=
    not_i (tst_i (eFn_i (c_cons (d := roadsD W.n (sortE (pres W.ts))) rfl (c_cons (eFn_i (c_cons (d := roadsD W.n E) rfl (c_cons (d := y) rfl c_nil)) rfl hmn) c_nil)) rfl (same_ok (pl_roads hsl) (by decide))))
  have etb : tbD W.n (tyE (sortE (pres W.ts))) = tbD W.n W.ts := by
    unfold tbD
    rw [pres_tyE, tab_sort hW.tw.wf]
  refine ⟨false, t1, if_no ⟨.loc p, rfl, ⟨_, hW.mp, rfl⟩, rfl, tbD W.n W.ts, watch_lengths_eq hW, [tbD W.n W.ts], rfl, rfl, .bl true, same_ok (pl_tb hn) (by decide), if_no ?_⟩⟩
  refine ⟨[roadsD W.n (sortE (pres W.ts))], rfl, fun p' hp' => ⟨rfl, p', W.n, sortE (pres W.ts), rfl, updM_same, hM, fun q' hq' => ⟨rfl, ?_⟩⟩⟩
  have hpq : p' ≠ q' := fun z => by
    subst z
    rw [updM_same] at hq'
    cases hq'
  have hq0 : μ q' = none := by
    rw [updM_ne hpq.symm] at hq'
    exact hq'
  have ep : putW C (updM μ p' (.ins C [])) p' q' (newW W.n (sortE (pres W.ts))) = putW C μ p' q' (newW W.n (sortE (pres W.ts))) := by
    unfold putW
    rw [updM_twice]
  rw [ep]
  have hW' := wat_new (C := C) (μ := μ) hM hpq
  refine ⟨⟨_, hW'.mp, rfl⟩, rfl, tbD W.n (tyE (sortE (pres W.ts))), watch_lengths_eq hW', [tbD W.n W.ts], rfl, rfl, .bl true, ?_, if_yes ?_⟩
  · rw [etb]
    exact same_ok (pl_tb hn) (by decide)
  · refine ⟨.bl true, ?_, GhV.drop μ (ext_put (Ext.refl _) hp' hq0) (GhV.done hk)⟩
    refine eFn_i (c_cons (eFn_i (c_cons (d := roadsD W.n (sortE (pres W.ts))) rfl c_nil) rfl (lengths_eq hM.map)) (c_cons (d := tbD W.n W.ts) rfl c_nil)) rfl ?_
    rw [tab_sort hW.tw.wf]
    exact same_ok (pl_tb hn) (by decide)
end K60
end

section
set_option maxRecDepth 100000
/-! S23: enough, by all. -/
namespace K60
open PySem PySem.Spec PyProof.Rows L2 DL Wl
section
variable {n : Nat} {R : List Edge} {a b : Nat}
theorem dist_tri (wf : Wf n R) {v m : Int} (ha : a < n) (hb : b < n) (hv : dist R a b = some v) (hm : v ≤ m) (h0 : 0 ≤ m) (s t : Nat) : dist ((a, b, m) :: R) s t = dist R s t := by
  rw [dist_add wf h0]
  cases hy : dist R s a with
  | none =>
    show leastO (dist R s t) none = _
    cases dist R s t <;> rfl
  | some y =>
    cases hz : dist R b t with
    | none =>
      show leastO (dist R s t) none = _
      cases dist R s t <;> rfl
    | some z =>
      show leastO (dist R s t) (some (y + m + z)) = _
      have d1 := isD_dist wf s a
      have d2 := isD_dist wf a b
      have d3 := isD_dist wf b t
      rw [hy] at d1
      rw [hv] at d2
      rw [hz] at d3
      obtain ⟨d, hd, hle⟩ := (isD_dist wf s t).low _ ((d1.1.trans d2.1).trans d3.1)
      rw [hd]
      unfold leastO
      split
      · rfl
      · next h =>
        have h2 : ¬ (d < y + m + z) := fun q => h (decide_eq_true q)
        congr 1
        omega
theorem dist_own (wf : Wf n R) {m : Int} (h0 : 0 ≤ m) : dist ((a, b, m) :: R) a b = leastO (dist R a b) (some m) := by
  rw [dist_add wf h0, dist_self wf, dist_self wf]
  show leastO (dist R a b) (some (0 + m + 0)) = _
  rw [Int.zero_add, Int.add_zero]
theorem row_differ {E E' : List Edge} (hb : b < n) (h : dist E a b ≠ dist E' a b) : decide (Wl.rowOf n E a = Wl.rowOf n E' a) = false := by
  refine decide_eq_false fun q => h ?_
  have h1 := rowOf_get (E := E) (s := a) hb
  rw [q, rowOf_get hb] at h1
  exact (Option.some.inj h1).symm
end
theorem pow_le2 {k : Nat} (h : k ≤ 120) : (2 : Int) ^ k ≤ 2 ^ 120 := by
  have : (2 : Nat) ^ k ≤ 2 ^ 120 := Nat.pow_le_pow_right (by decide) h
  exact_mod_cast this
theorem dist_bound {n : Nat} {R : List Edge} (wf : Wf n R) (hl : R.length ≤ 120) (hs : ∀ e ∈ R, e.2.2 ≤ 10 ^ 50) {s t : Nat} {v : Int} (h : dist R s t = some v) : 0 ≤ v ∧ v ≤ 2 ^ 120 * 10 ^ 50 := by
  have d := isD_dist wf s t
  rw [h] at d
  obtain ⟨w', h1, h2⟩ := dist_small (L := 10 ^ 50) (by decide) R wf hs s t v d.1
  have h3 := d.2 w' h1
  have h4 : ((2 : Int) ^ R.length - 1) * 10 ^ 50 ≤ 2 ^ 120 * 10 ^ 50 := Int.mul_le_mul_of_nonneg_right (by have := pow_le2 hl; omega) (by decide)
  exact ⟨d.1.nonneg wf, by omega⟩
theorem big_ok : (3 : Int) * (2 ^ 120 * 10 ^ 50) + 7 < 10 ^ 100 := by decide
/-- the lengths that are tried -/
def triedL : Option Int → List (Option Int)
  | none => [none, some 5, some 6]
  | some v => [none, some v, some (v + 1), some (3 * v + 7)] ++ if 0 < v then [some (v - 1)] else []
theorem tried_pos {v : Int} (h : 0 < v) : triedL (some v) = [none, some v, some (v + 1), some (3 * v + 7), some (v - 1)] := by
  simp only [triedL, if_pos h]
  rfl
theorem tried_zero {v : Int} (h : ¬ 0 < v) : triedL (some v) = [none, some v, some (v + 1), some (3 * v + 7)] := by
  simp only [triedL, if_neg h]
  rfl
theorem tried_len (β : Option Int) : (triedL β).length ≤ 5 := by
  cases β with
  | none => decide
  | some v =>
    by_cases h : 0 < v
    · rw [tried_pos h]
      exact Nat.le_refl _
    · rw [tried_zero h]
      show (4 : Nat) ≤ 5
      omega
theorem tried_ok {β : Option Int} (h : ∀ v, β = some v → 0 ≤ v ∧ v ≤ 2 ^ 120 * 10 ^ 50) : ∀ o ∈ triedL β, ∀ l, o = some l → 0 ≤ l ∧ l < 10 ^ 100 := fun o ho l hl => by
  subst hl
  cases β with
  | none =>
    simp only [triedL, List.mem_cons, List.not_mem_nil, or_false] at ho
    rcases ho with h | h | h
    · cases h
    · cases h
      exact ⟨by decide, by decide⟩
    · cases h
      exact ⟨by decide, by decide⟩
  | some v =>
    obtain ⟨h0, h1⟩ := h v rfl
    have hb := big_ok
    simp only [triedL, List.mem_append, List.mem_cons, List.not_mem_nil, or_false] at ho
    rcases ho with (h | h | h | h) | h
    · cases h
    · cases h
      omega
    · cases h
      omega
    · cases h
      omega
    · split at h
      · simp only [List.mem_cons, List.not_mem_nil, or_false] at h
        cases h
        omega
      · cases h
section
variable {C : Addr} {μ : Mu} {p q pf : Addr} {W W1 : WS}
theorem putW_self (h : Wat C μ p q W) : putW C μ p q W = μ := by
  unfold putW
  rw [updM_self h.mp, updM_self h.mq]
theorem mem_back (h : Wat C μ p q W) (hp : pf ≠ p) (hq : pf ≠ q) {f f' : List D} : putW C (updM (putW C (updM μ pf (.lst f)) p q W1) pf (.lst f')) p q W = updM μ pf (.lst f') := by
  funext x
  unfold putW updM
  by_cases h1 : x = q
  · subst h1
    rw [if_pos rfl, if_neg hq.symm]
    exact h.mq.symm
  · rw [if_neg h1]
    by_cases h2 : x = p
    · subst h2
      rw [if_pos rfl, if_neg hp.symm]
      exact h.mp.symm
    · rw [if_neg h2]
      by_cases h3 : x = pf
      · subst h3
        rw [if_pos rfl, if_pos rfl]
      · simp only [if_neg h1, if_neg h2, if_neg h3]
theorem back_set {i a b : Nat} {o : Option Int} {c : Int} : (W.set i a b o c).back W.ts W.dn = W := rfl
end
def S__law_enough_right (C : Addr) : DC := fun ds μ k => ∃ bx l T p q W E pn, ds = [.loc bx, .loc p, roadsD W.n E, .loc pn] ∧ μ bx = some (.lst l) ∧ BoxL T l ∧ T + 1 ≤ 1000000000 ∧ Wat C μ p q W ∧ μ pn = some (.lst (nowL W.ts)) ∧ EndsOk E W.ts ∧ 1 ≤ W.ts.length ∧ W.dn.length < 900 ∧
  (∀ e ∈ pres W.ts, e.2.2 ≤ 10 ^ 50) ∧ bx ≠ p ∧ bx ≠ q ∧ bx ≠ pn ∧ ∀ l', BoxL (T + 1) l' → k (.bl true) (updM μ bx (.lst l'))
def er_loop (C : Addr) : DS := sFor (iSeq (dP (eIf (eTst (e2 (gIs false) (eV 8) (eC .non))) (eN DL.gLst (eCons (eC .non) (eCons (eC (.int 5)) (eCons (eC (.int 6)) eNil)))) (e2 gAdd (eN DL.gLst (eCons (eC .non) (eCons (eV 8) (eCons (e2 gAdd (eV 8) (eC (.int 1))) (eCons (e2 gAdd (e2 gMul (eC (.int 3)) (eV 8)) (eC (.int 7))) eNil))))) (eIf (eTst (e2 (gCmpI fun i j => decide (j < i)) (eV 8) (eC (.int 0)))) (eN DL.gLst (eCons (e2 (gArith fun i j => i - j) (eV 8) (eC (.int 1))) eNil)) (eN DL.gLst eNil)))))) (dgName 6) (sGh (sSeq (sIf (dTst (dOp (p2 (gIs true)) (dMt C "set_length" (S_set_length C) 3 (dP (eV 1)) (dPA (eCons (eV 4) (eCons (eV 6) eNil)))) (dP (eC .non)))) (sRet (dP (eC (.bl false)))) sNext) (sSeq (sDrop (dBM fApp (dP (eV 5)) (dCons (dMt C "lengths" (pN (G_Watch_lengths C)) 1 (dP (eV 1)) dNil) (dPA eNil)))) (sIf (dOrT (dTst (dOp (p2 (gEq true)) (dMt C "enough" (S_enough C) 2 (dP (eV 1)) (dPA (eCons (eV 4) eNil))) (dP (eV 8)))) (dTst (dOp (p2 (gIs true)) (dMt C "undo" (S_undo C) 1 (dP (eV 1)) dNil) (dP (eC .non))))) (sRet (dP (eC (.bl false)))) sNext))))
theorem is_non {μ : Mu} : gIs true μ .non .non = some (.bl false) := rfl
theorem er_run {C : Addr} {μ : Mu} {p q pf : Addr} {W : WS} {i a b : Nat} {o0 : Option Int} {s0 s2 s3 s6 s7 s9 s10 s11 s12 : Option D} {E' : DEnds} (hW : Wat C μ p q W) (hf : μ pf = none) (hi : W.ts[i]? = some (a, b, o0)) (hdl : W.dn.length < 900)
    (hβ : ∀ v, dist (pres (W.ts.set i (a, b, none))) a b = some v → 0 ≤ v ∧ v ≤ 2 ^ 120 * 10 ^ 50)
    (fin : ∀ s6, E'.nx [s0, some (.loc p), s2, s3, some (.int i), some (.loc pf), s6, s7, some (oD (dist (pres (W.ts.set i (a, b, none))) a b)), s9, s10, s11, s12] (updM μ pf (.lst ((triedL (dist (pres (W.ts.set i (a, b, none))) a b)).map fun o => tbD W.n (W.ts.set i (a, b, o)))))) :
    er_loop C E' [s0, some (.loc p), s2, s3, some (.int i), some (.loc pf), s6, s7, some (oD (dist (pres (W.ts.set i (a, b, none))) a b)), s9, s10, s11, s12] (updM μ pf (.lst [])) := by
  have hpp : pf ≠ p := fun z => by
    subst z
    rw [hW.mp] at hf
    cases hf
  have hpq : pf ≠ q := fun z => by
    subst z
    rw [hW.mq] at hf
    cases hf
  have hWf : ∀ f, Wat C (updM μ pf (.lst f)) p q W := fun f => hW.ext (Ext.new (Ext.refl _) hf)
  unfold er_loop
  have ev : ∀ ρ : Ro, slot ρ 8 = some (oD (dist (pres (W.ts.set i (a, b, none))) a b)) → (eIf (eTst (e2 (gIs false) (eV 8) (eC .non))) (eN DL.gLst (eCons (eC .non) (eCons (eC (.int 5)) (eCons (eC (.int 6)) eNil)))) (e2 gAdd (eN DL.gLst (eCons (eC .non) (eCons (eV 8) (eCons (e2 gAdd (eV 8) (eC (.int 1))) (eCons (e2 gAdd (e2 gMul (eC (.int 3)) (eV 8)) (eC (.int 7))) eNil))))) (eIf (eTst (e2 (gCmpI fun i j => decide (j < i)) (eV 8) (eC (.int 0)))) (eN DL.gLst (eCons (e2 (gArith fun i j => i - j) (eV 8) (eC (.int 1))) eNil)) (eN DL.gLst eNil)))) ρ (updM μ pf (.lst [])) = some (.lst ((triedL (dist (pres (W.ts.set i (a, b, none))) a b)).map oD)) := fun ρ h8 => by
    cases hd : dist (pres (W.ts.set i (a, b, none))) a b with
    | none =>
      rw [hd] at h8
      exact if_ti (is_o (o := none) h8) rfl
    | some v =>
      rw [hd] at h8
      have h9 : slot ρ 8 = some (.int v) := h8
      refine if_fi (is_o (o := some v) h8) ?_
      have hm : gMul (updM μ pf (.lst [])) (.int 3) (.int v) = some (.int (3 * v)) := mul_ok (by decide)
      have e1 : (eN DL.gLst (eCons (eC .non) (eCons (eV 8) (eCons (e2 gAdd (eV 8) (eC (.int 1))) (eCons (e2 gAdd (e2 gMul (eC (.int 3)) (eV 8)) (eC (.int 7))) eNil))))) ρ (updM μ pf (.lst [])) = some (.lst [.non, .int v, .int (v + 1), .int (3 * v + 7)]) :=
        eN_i (c_cons (d := .non) rfl (c_cons h9 (c_cons (e2_i h9 (y := .int 1) rfl rfl) (c_cons (e2_i (e2_i (x := .int 3) rfl h9 hm) (y := .int 7) rfl rfl) c_nil)))) rfl
      have tg := tst_i (e2_i (f := gCmpI fun i j => decide (j < i)) (u := eV 8) (v := eC (.int 0)) (μ := updM μ pf (.lst [])) h9 (y := .int 0) rfl gt_i)
      by_cases hv : 0 < v
      · rw [decide_eq_true hv] at tg
        refine e2_i e1 (if_ti tg (eN_i (c_cons (e2_i h9 (y := .int 1) rfl rfl) c_nil) rfl)) ?_
        rw [tried_pos hv]
        rfl
      · rw [decide_eq_false hv] at tg
        refine e2_i e1 (if_fi tg (d := .lst []) rfl) ?_
        rw [tried_zero hv]
        rfl
  refine ⟨.lst ((triedL (dist (pres (W.ts.set i (a, b, none))) a b)).map oD), ev _ rfl, (triedL (dist (pres (W.ts.set i (a, b, none))) a b)).map oD, rfl, ?_⟩
  refine forL_ix (fun j ρ μ' => (∃ s6, ρ = [s0, some (.loc p), s2, s3, some (.int i), some (.loc pf), s6, s7, some (oD (dist (pres (W.ts.set i (a, b, none))) a b)), s9, s10, s11, s12]) ∧ μ' = updM μ pf (.lst (((triedL (dist (pres (W.ts.set i (a, b, none))) a b)).take j).map fun o => tbD W.n (W.ts.set i (a, b, o)))))
    (fun _ _ _ _ => trivial) (fun j y ρ μ' N' hy hQ hN => ?_) (fun ρ μ' hQ => ?_) ⟨⟨_, rfl⟩, by rw [List.take_zero]; rfl⟩
  · obtain ⟨⟨s6, rfl⟩, rfl⟩ := hQ
    rw [List.getElem?_map] at hy
    cases ho : (triedL (dist (pres (W.ts.set i (a, b, none))) a b))[j]? with
    | none => rw [ho] at hy; cases hy
    | some o =>
      rw [ho] at hy
      cases hy
      have hjl : j < (triedL (dist (pres (W.ts.set i (a, b, none))) a b)).length := (List.getElem?_eq_some_iff.mp ho).1
      have hok := tried_ok hβ o (List.mem_of_getElem? ho)
      have hW0 := hWf (((triedL (dist (pres (W.ts.set i (a, b, none))) a b)).take j).map fun o => tbD W.n (W.ts.set i (a, b, o)))
      refine sGh_i (sSeq_i ⟨.loc p, rfl, ⟨_, hW0.mp, rfl⟩, [.int i, oD o], rfl, rfl, p, q, W, i, a, b, o0, o, rfl, hW0, hi, hok, by omega, fun c => ⟨.non, rfl, .bl false, is_non, if_no ?_⟩⟩)
      have hW1 := hW0.setOk (c := c) hi hok (by omega)
      have mf : putW C (updM μ pf (.lst (((triedL (dist (pres (W.ts.set i (a, b, none))) a b)).take j).map fun o => tbD W.n (W.ts.set i (a, b, o))))) p q (W.set i a b o c) pf = some (.lst (((triedL (dist (pres (W.ts.set i (a, b, none))) a b)).take j).map fun o => tbD W.n (W.ts.set i (a, b, o)))) := by
        unfold putW
        rw [updM_ne hpq, updM_ne hpp, updM_same]
      refine sSeq_i ⟨.loc pf, rfl, ⟨_, itemsL_loc mf⟩, .loc p, rfl, ⟨_, hW1.mp, rfl⟩, rfl, tbD W.n (W.ts.set i (a, b, o)), watch_lengths_eq hW1, [], rfl, lstAt_i mf ⟨?_, ?_⟩⟩
      · rw [List.length_map, List.length_take]
        have := tried_len (dist (pres (W.ts.set i (a, b, none))) a b)
        omega
      · have hW2 : Wat C (updM (putW C (updM μ pf (.lst (((triedL (dist (pres (W.ts.set i (a, b, none))) a b)).take j).map fun o => tbD W.n (W.ts.set i (a, b, o))))) p q (W.set i a b o c)) pf (.lst ((((triedL (dist (pres (W.ts.set i (a, b, none))) a b)).take j).map fun o => tbD W.n (W.ts.set i (a, b, o))) ++ [tbD W.n (W.ts.set i (a, b, o))]))) p q (W.set i a b o c) :=
          ⟨by rw [updM_ne hpp.symm]; exact hW1.mp, by rw [updM_ne hpq.symm]; exact hW1.mq, hW1.pq, hW1.n1, hW1.n2, hW1.tl, hW1.tw, hW1.hl, hW1.dl⟩
        have hi1 : (W.set i a b o c).ts[i]? = some (a, b, o) := by
          show (W.ts.set i (a, b, o))[i]? = _
          rw [List.getElem?_set_self (List.getElem?_eq_some_iff.mp hi).1]
        have hss : (W.set i a b o c).ts.set i (a, b, none) = W.ts.set i (a, b, none) := List.set_set _
        refine ⟨.loc p, rfl, ⟨_, hW2.mp, rfl⟩, [.int i], rfl, rfl, p, q, W.set i a b o c, i, a, b, o, rfl, hW2, hi1, oD (dist (pres (W.ts.set i (a, b, none))) a b), rfl, .bl false, ?_, if_no ?_⟩
        · rw [hss, ne_o]
          congr 2
          cases dist (pres (W.ts.set i (a, b, none))) a b with
          | none => rfl
          | some v =>
            show (decide (v = v) != true) = false
            rw [decide_eq_true rfl]
            rfl
        · refine ⟨.loc p, rfl, ⟨_, hW2.mp, rfl⟩, rfl, p, q, W.set i a b o c, ⟨i, o, c, W.ts⟩, W.dn, rfl, hW2, rfl, .non, rfl, .bl false, is_non, if_no ?_⟩
          rw [back_set, mem_back hW hpp hpq]
          refine GhS.done (hN _ _ ⟨⟨_, rfl⟩, ?_⟩)
          rw [List.take_succ_eq_append_getElem hjl, (List.getElem?_eq_some_iff.mp ho).2, List.map_append]
          rfl
  · obtain ⟨⟨s6, rfl⟩, rfl⟩ := hQ
    rw [List.length_map, List.take_length]
    exact fin s6
end K60
end

section
set_option maxRecDepth 100000
/-! S24: enough is right. -/
namespace K60
open PySem PySem.Spec PyProof.Rows L2 DL Wl
theorem tried_0 (β : Option Int) : (triedL β)[0]? = some none := by
  cases β <;> rfl
theorem ends_set {ts : List Ty} {i a b : Nat} {o0 o : Option Int} (h : ts[i]? = some (a, b, o0)) : (ts.set i (a, b, o)).map ends = ts.map ends := by
  rw [List.map_set]
  have h1 : (ts.map ends)[i]? = some (ends (a, b, o)) := by
    rw [List.getElem?_map, h]
    rfl
  obtain ⟨hi, he⟩ := List.getElem?_eq_some_iff.mp h1
  rw [← he]
  exact List.set_getElem_self hi
theorem ends_at {E : List Edge} {ts : List Ty} {i a b : Nat} {o : Option Int} (h : EndsOk E ts) (hi : ts[i]? = some (a, b, o)) : ∃ l, E[i]? = some (a, b, l) := by
  have := congrArg (fun l => l[i]?) h
  simp only [List.getElem?_map, hi, Option.map_some] at this
  cases hE : E[i]? with
  | none => rw [hE] at this; cases this
  | some e =>
    rw [hE] at this
    obtain ⟨u, v, l⟩ := e
    simp only [Option.map_some, Option.some.injEq, ends, Prod.mk.injEq] at this
    obtain ⟨rfl, rfl⟩ := this
    exact ⟨l, rfl⟩
theorem now_set {ts : List Ty} {i a b : Nat} : ((List.range ts.length).map fun k => oD (if k = i then none else (ts.getD k (0, 0, none)).2.2)) = nowL (ts.set i (a, b, none)) := by
  unfold nowL
  apply List.ext_getElem?
  intro k
  by_cases hk : k < ts.length
  · rw [List.getElem?_map, List.getElem?_range hk, List.getElem?_map]
    by_cases hki : k = i
    · subst hki
      rw [List.getElem?_set_self hk, Option.map_some, if_pos rfl]
      rfl
    · rw [List.getElem?_set_ne (Ne.symm hki), List.getElem?_eq_getElem hk, Option.map_some, if_neg hki, List.getD_eq_getElem?_getD, List.getElem?_eq_getElem hk]
      rfl
  · rw [List.getElem?_eq_none (by rw [List.length_map, List.length_range]; omega), List.getElem?_eq_none (by rw [List.length_map, List.length_set]; omega)]
theorem sem__law_enough_right (C : Addr) (ds : List D) (μ : Mu) (kont : DK) (h : S__law_enough_right C ds μ kont) :
    bd__law_enough_right (S_enough C) (S_set_length C) (S_undo C) S__law_take (G_Watch_lengths C) G__law_lengths G__law_map_now G__law_same C { nx := fun _ μ' => GhV kont .non μ', rt := GhV kont } (startD N__law_enough_right ds) μ := by
  obtain ⟨bx, l, T, p, q, W, E, pn, rfl, hb, hB, hT, hW0, hpn0, hE, h1t, hdl, hsm, bp, bq, bpn, hk⟩ := h
  unfold bd__law_enough_right
  have htl := hW0.tl
  have hlen0 : eN gLen (eCons (eV 3) eNil) [some (.loc bx), some (.loc p), some (roadsD W.n E), some (.loc pn), none, none, none, none, none, none, none, none, none] μ = some (.int (W.ts.length : Nat)) := by
    refine eN_i (c_cons (d := .loc pn) rfl c_nil) ?_
    rw [len_items (items_loc hpn0)]
    unfold nowL
    rw [List.length_map]
  refine sSeq_i ⟨[.loc bx, .int (W.ts.length : Nat)], c_cons (d := .loc bx) rfl (c_cons hlen0 c_nil), rfl, bx, l, T, W.ts.length, rfl, hb, hB, by omega, h1t, by omega, fun i l' hi' hB' => ?_⟩
  obtain ⟨a, b, o0, hi⟩ := get_ty hi'
  have hab := hW0.tw _ (List.mem_of_getElem? hi)
  have hW : Wat C (updM μ bx (.lst l')) p q W := ⟨by rw [updM_ne bp.symm]; exact hW0.mp, by rw [updM_ne bq.symm]; exact hW0.mq, hW0.pq, hW0.n1, hW0.n2, hW0.tl, hW0.tw, hW0.hl, hW0.dl⟩
  have hpn : (updM μ bx (.lst l')) pn = some (.lst (nowL W.ts)) := by rw [updM_ne bpn.symm]; exact hpn0
  have wr := wf_out hi hW.tw.wf
  have hrl : (pres (W.ts.set i (a, b, none))).length ≤ 120 := Nat.le_trans (pres_len _) (by rw [List.length_set]; exact htl)
  have hrs : ∀ e ∈ pres (W.ts.set i (a, b, none)), e.2.2 ≤ 10 ^ 50 := fun e he => by
    cases o0 with
    | none =>
      rw [set_same hi] at he
      exact hsm e he
    | some m => exact hsm e ((pres_at hi e).mpr (List.mem_cons_of_mem _ he))
  have hβ : ∀ v, dist (pres (W.ts.set i (a, b, none))) a b = some v → 0 ≤ v ∧ v ≤ 2 ^ 120 * 10 ^ 50 := fun v hv => dist_bound wr hrl hrs hv
  obtain ⟨lE, hEi⟩ := ends_at hE hi
  have e9 : e2 gIx (e2 gIx (e2 gIx (eV 2) (eC (.int 1))) (eV 4)) (eC (.int 0)) [some (.loc bx), some (.loc p), some (roadsD W.n E), some (.loc pn), some (.int i), none, none, none, none, none, none, none, none] (updM μ bx (.lst l')) = some (.int a) := by
    refine e2_i (x := edgeD (a, b, lE)) (e2_i (e2_i (x := roadsD W.n E) rfl (y := .int 1) rfl (ix_tup (j := 1) rfl)) (y := .int i) rfl (ix_tup ?_)) (y := .int 0) rfl (ix_tup (j := 0) rfl)
    rw [List.getElem?_map, hEi]
    rfl
  refine sSeq_i ⟨.loc p, rfl, ⟨_, hW.mp, rfl⟩, [.int i], rfl, rfl, p, q, W, i, a, b, o0, rfl, hW, hi, .int a, e9, .loc p, rfl, ⟨_, hW.mp, rfl⟩, rfl, tbD W.n W.ts, watch_lengths_eq hW, [], rfl, sSeq_i ?_⟩
  have t8 : eAndT (eTst (e2 (gIs true) (eV 8) (eC .non))) (eOrT (eNotT (eTst (e1 (gIsi ["int"]) (eV 8)))) (eOrT (eTst (e1 (gIsi ["bool"]) (eV 8))) (eTst (e2 (gCmpI fun i j => decide (i < j)) (eV 8) (eC (.int 0)))))) [some (.loc bx), some (.loc p), some (roadsD W.n E), some (.loc pn), some (.int i), none, none, none, some (oD (dist (pres (W.ts.set i (a, b, none))) a b)), some (.int a), some (tbD W.n W.ts), none, none] (updM μ bx (.lst l')) = some false := by
    cases hd : dist (pres (W.ts.set i (a, b, none))) a b with
    | none => exact and_f (is_o (o := none) rfl)
    | some v =>
      have hv := (hβ v hd).1
      refine and_t (is_o (o := some v) rfl) (or_f (not_i (is_ty (x := .int v) (isi_int kit_int_int) rfl)) (or_f (is_ty (x := .int v) (isi_int kit_int_bool) rfl) (tst_i (e2_i (x := .int v) rfl (y := .int 0) rfl ?_))))
      rw [lt_i, decide_eq_false (by omega)]
  refine sIf_f t8 (sSeq_i ⟨[], rfl, Nat.zero_le _, fun pf hf => sSeq_i ?_⟩)
  refine er_run hW hf hi hdl hβ fun s6 => ?_
  have hfx : Ext (updM μ bx (.lst l')) (updM (updM μ bx (.lst l')) pf (.lst ((triedL (dist (pres (W.ts.set i (a, b, none))) a b)).map fun o => tbD W.n (W.ts.set i (a, b, o))))) := Ext.new (Ext.refl _) hf
  have hW2 := hW.ext hfx
  have hpn2 := hfx _ _ hpn
  generalize hμ2 : updM (updM μ bx (.lst l')) pf (.lst ((triedL (dist (pres (W.ts.set i (a, b, none))) a b)).map fun o => tbD W.n (W.ts.set i (a, b, o)))) = μ2 at hW2 hpn2 hfx ⊢
  have hpf2 : μ2 pf = some (.lst ((triedL (dist (pres (W.ts.set i (a, b, none))) a b)).map fun o => tbD W.n (W.ts.set i (a, b, o)))) := by rw [← hμ2, updM_same]
  -- the rest
  have erest : eLc (ipRg1 (eCons (eN gLen (eCons (eV 3) eNil)) eNil)) (egName 11) eYes (eIf (eTst (e2 (gEq true) (eV 11) (eV 4))) (e2 gIx (eV 3) (eV 11)) (eC .non)) [11] [some (.loc bx), some (.loc p), some (roadsD W.n E), some (.loc pn), some (.int i), some (.loc pf), s6, none, some (oD (dist (pres (W.ts.set i (a, b, none))) a b)), some (.int a), some (tbD W.n W.ts), none, none] μ2 = some (.lst (nowL (W.ts.set i (a, b, none)))) := by
    have key : lcGo (egName 11) eYes (eIf (eTst (e2 (gEq true) (eV 11) (eV 4))) (e2 gIx (eV 3) (eV 11)) (eC .non)) [some (.loc bx), some (.loc p), some (roadsD W.n E), some (.loc pn), some (.int i), some (.loc pf), s6, none, some (oD (dist (pres (W.ts.set i (a, b, none))) a b)), some (.int a), some (tbD W.n W.ts), none, none] μ2 ((List.range W.ts.length).map fun (k : Nat) => D.int (0 + (k : Int))) = some ((List.range W.ts.length).map fun k => oD (if k = i then none else (W.ts.getD k (0, 0, none)).2.2)) := by
      refine lcGo_map (fun (k : Nat) => D.int (0 + (k : Int))) (fun k => oD (if k = i then none else (W.ts.getD k (0, 0, none)).2.2)) _ fun k hk' => ⟨[some (.loc bx), some (.loc p), some (roadsD W.n E), some (.loc pn), some (.int i), some (.loc pf), s6, none, some (oD (dist (pres (W.ts.set i (a, b, none))) a b)), some (.int a), some (tbD W.n W.ts), some (.int (0 + (k : Int))), none], rfl, rfl, ?_⟩
      rw [List.mem_range] at hk'
      rw [Int.zero_add]
      have tq := tst_i (e2_i (f := gEq true) (u := eV 11) (v := eV 4) (ρ := [some (.loc bx), some (.loc p), some (roadsD W.n E), some (.loc pn), some (.int i), some (.loc pf), s6, none, some (oD (dist (pres (W.ts.set i (a, b, none))) a b)), some (.int a), some (tbD W.n W.ts), some (.int (k : Int)), none]) (μ := μ2) (x := .int k) rfl (y := .int i) rfl eq_int)
      by_cases hki : k = i
      · rw [decide_eq_true (by omega)] at tq
        rw [if_pos hki]
        exact if_fi tq rfl
      · rw [decide_eq_false (by omega)] at tq
        rw [if_neg hki]
        refine if_ti tq (e2_i (x := .loc pn) rfl (y := .int k) rfl (ix_loc hpn2 ?_))
        unfold nowL
        rw [List.getElem?_map, List.getElem?_eq_getElem hk', List.getD_eq_getElem?_getD, List.getElem?_eq_getElem hk']
        rfl
    rw [now_set (a := a) (b := b)] at key
    have hl2 : eN gLen (eCons (eV 3) eNil) [some (.loc bx), some (.loc p), some (roadsD W.n E), some (.loc pn), some (.int i), some (.loc pf), s6, none, some (oD (dist (pres (W.ts.set i (a, b, none))) a b)), some (.int a), some (tbD W.n W.ts), none, none] μ2 = some (.int (W.ts.length : Nat)) := by
      refine eN_i (c_cons (d := .loc pn) rfl c_nil) ?_
      rw [len_items (items_loc hpn2)]
      unfold nowL
      rw [List.length_map]
    have h1 : ipRg1 (eCons (eN gLen (eCons (eV 3) eNil)) eNil) [some (.loc bx), some (.loc p), some (roadsD W.n E), some (.loc pn), some (.int i), some (.loc pf), s6, none, some (oD (dist (pres (W.ts.set i (a, b, none))) a b)), some (.int a), some (tbD W.n W.ts), none, none] μ2 = some ((List.range W.ts.length).map fun (k : Nat) => D.int (0 + (k : Int))) := by
      have h4 : ((W.ts.length : Nat) : Int) ≤ 100000 := by omega
      have h5 : (-100000 : Int) ≤ ((W.ts.length : Nat) : Int) := by omega
      simp only [ipRg1, eCons, eNil, hl2, Option.bind_some, h4, h5, and_self, if_true, rgD, Int.toNat_natCast]
    have h2 : ((List.range W.ts.length).map fun (k : Nat) => D.int (0 + (k : Int))).length ≤ 100000 := by
      rw [List.length_map, List.length_range]
      omega
    simp only [eLc, h1, Option.bind_some, h2, if_true, unsetAll, setS, key]
  have tw' := hW.tw.set (o' := none) hi fun l hl => by cases hl
  have hts' : (W.ts.set i (a, b, none)).length ≤ 1000 := by rw [List.length_set]; omega
  have hmn := map_now_eq (μ := μ2) (n := W.n) (E := E) (ts := W.ts.set i (a, b, none)) (y := .lst (nowL (W.ts.set i (a, b, none)))) rfl (by rw [ends_set hi]; exact hE) hts'
  have hll := law_lengths_eq (μ := μ2) (x := .tup ((sortE (pres (W.ts.set i (a, b, none)))).map edgeD)) (n := W.n) (E := sortE (pres (W.ts.set i (a, b, none)))) rfl (wf_sub wr fun e he => (sortE_perm _).mem_iff.mp he) hW.n3 (by rw [(sortE_perm _).length_eq]; omega)
  rw [tab_sort wr] at hll
  refine sSeq_i ⟨.lst (nowL (W.ts.set i (a, b, none))), erest, sSeq_i ?_⟩
  -- the slots from here on
  have fx : ∀ (ρ : Ro) (j : Nat) (o : Option Int), slot ρ 5 = some (.loc pf) → (triedL (dist (pres (W.ts.set i (a, b, none))) a b))[j]? = some o → e2 gIx (eV 5) (eC (.int j)) ρ μ2 = some (tbD W.n (W.ts.set i (a, b, o))) := fun ρ j o h5 hj => e2_i h5 rfl (ix_loc hpf2 (by rw [List.getElem?_map, hj]; rfl))
  have fr : ∀ (ρ : Ro) (j : Nat) (o : Option Int), slot ρ 5 = some (.loc pf) → slot ρ 9 = some (.int a) → (triedL (dist (pres (W.ts.set i (a, b, none))) a b))[j]? = some o → e2 gIx (e2 gIx (eV 5) (eC (.int j))) (eV 9) ρ μ2 = some (rowT (Wl.rowOf W.n (pres (W.ts.set i (a, b, o))) a)) := fun ρ j o h5 h9 hj => e2_i (fx ρ j o h5 hj) h9 (ix_tab hab.1)
  have dm : ∀ m, 0 ≤ m → ∀ s t, dist (pres (W.ts.set i (a, b, some m))) s t = dist ((a, b, m) :: pres (W.ts.set i (a, b, none))) s t := fun m hm s t => dist_iff (Wf.cons wr hab.1 hab.2.1 hm) (fun e => (pres_set hi' e).symm) s t
  have ta : eNotT (eTst (eFn G__law_same [] 2 (eCons (e2 gIx (eV 5) (eC (.int 0))) (eCons (eFn G__law_lengths [] 2 (eCons (e2 gIx (eV 2) (eC (.int 0))) (eCons (e2 gIx (eFn G__law_map_now [] 2 (eCons (eV 2) (eCons (eV 7) eNil))) (eC (.int 1))) eNil))) eNil)))) [some (.loc bx), some (.loc p), some (roadsD W.n E), some (.loc pn), some (.int i), some (.loc pf), s6, some (.lst (nowL (W.ts.set i (a, b, none)))), some (oD (dist (pres (W.ts.set i (a, b, none))) a b)), some (.int a), some (tbD W.n W.ts), none, none] μ2 = some false := by
    have m1 : eFn G__law_map_now [] 2 (eCons (eV 2) (eCons (eV 7) eNil)) [some (.loc bx), some (.loc p), some (roadsD W.n E), some (.loc pn), some (.int i), some (.loc pf), s6, some (.lst (nowL (W.ts.set i (a, b, none)))), some (oD (dist (pres (W.ts.set i (a, b, none))) a b)), some (.int a), some (tbD W.n W.ts), none, none] μ2 = some (roadsD W.n (sortE (pres (W.ts.set i (a, b, none))))) := eFn_i (c_cons (d := roadsD W.n E) rfl (c_cons (d := .lst (nowL (W.ts.set i (a, b, none)))) rfl c_nil)) rfl hmn
    have m2 : e2 gIx (eFn G__law_map_now [] 2 (eCons (eV 2) (eCons (eV 7) eNil))) (eC (.int 1)) [some (.loc bx), some (.loc p), some (roadsD W.n E), some (.loc pn), some (.int i), some (.loc pf), s6, some (.lst (nowL (W.ts.set i (a, b, none)))), some (oD (dist (pres (W.ts.set i (a, b, none))) a b)), some (.int a), some (tbD W.n W.ts), none, none] μ2 = some (.tup ((sortE (pres (W.ts.set i (a, b, none)))).map edgeD)) := e2_i m1 (y := .int 1) rfl (ix_tup (j := 1) rfl)
    have m3 : e2 gIx (eV 5) (eC (.int 0)) [some (.loc bx), some (.loc p), some (roadsD W.n E), some (.loc pn), some (.int i), some (.loc pf), s6, some (.lst (nowL (W.ts.set i (a, b, none)))), some (oD (dist (pres (W.ts.set i (a, b, none))) a b)), some (.int a), some (tbD W.n W.ts), none, none] μ2 = some (tbD W.n (W.ts.set i (a, b, none))) := fx _ 0 none rfl (tried_0 _)
    have m4 : e2 gIx (eV 2) (eC (.int 0)) [some (.loc bx), some (.loc p), some (roadsD W.n E), some (.loc pn), some (.int i), some (.loc pf), s6, some (.lst (nowL (W.ts.set i (a, b, none)))), some (oD (dist (pres (W.ts.set i (a, b, none))) a b)), some (.int a), some (tbD W.n W.ts), none, none] μ2 = some (.int W.n) := e2_i (x := roadsD W.n E) rfl (y := .int 0) rfl (ix_tup (j := 0) rfl)
    have m5 : eFn G__law_lengths [] 2 (eCons (e2 gIx (eV 2) (eC (.int 0))) (eCons (e2 gIx (eFn G__law_map_now [] 2 (eCons (eV 2) (eCons (eV 7) eNil))) (eC (.int 1))) eNil)) [some (.loc bx), some (.loc p), some (roadsD W.n E), some (.loc pn), some (.int i), some (.loc pf), s6, some (.lst (nowL (W.ts.set i (a, b, none)))), some (oD (dist (pres (W.ts.set i (a, b, none))) a b)), some (.int a), some (tbD W.n W.ts), none, none] μ2 = some (tbD W.n (W.ts.set i (a, b, none))) := eFn_i (c_cons m4 (c_cons m2 c_nil)) rfl hll
    refine not_i (c := true) (tst_i (eFn_i (c_cons m3 (c_cons m5 c_nil)) rfl ?_))
    exact same_ok (pl_tb (ts := W.ts.set i (a, b, none)) hW.n3) (by decide)
  refine ⟨false, ta, if_no ⟨.loc p, rfl, ⟨_, hW2.mp, rfl⟩, rfl, tbD W.n W.ts, watch_lengths_eq hW2, [tbD W.n W.ts], rfl, rfl, .bl true, same_ok (pl_tb hW.n3) (by decide), if_no (sSeq_i ?_)⟩⟩
  have done : GhV kont (.bl true) μ2 := GhV.drop (updM μ bx (.lst l')) hfx (GhV.done (hk l' hB'))
  cases hd : dist (pres (W.ts.set i (a, b, none))) a b with
  | none =>
    rw [hd] at fr fx
    refine sIf_t (is_o (o := none) rfl) ⟨.bl true, ?_, done⟩
    have r5 := dist_own (b := b) (a := a) wr (m := 5) (by decide)
    have r6 := dist_own (b := b) (a := a) wr (m := 6) (by decide)
    rw [hd] at r5 r6
    have g1 : e2 (gEq true) (e2 gIx (e2 gIx (eV 5) (eC (.int 0))) (eV 9)) (e2 gIx (e2 gIx (eV 5) (eC (.int 1))) (eV 9)) [some (.loc bx), some (.loc p), some (roadsD W.n E), some (.loc pn), some (.int i), some (.loc pf), s6, some (.lst (nowL (W.ts.set i (a, b, none)))), some (oD none), some (.int a), some (tbD W.n W.ts), none, none] μ2 = some (.bl true) := by
      refine e2_i (fr _ 0 none rfl rfl rfl) (fr _ 1 (some 5) rfl rfl rfl) ?_
      rw [row_ne, row_differ hab.2.1]
      · rfl
      · rw [dm 5 (by decide), hd, r5]
        exact fun q => by cases q
    have g2 : e2 (gEq true) (e2 gIx (e2 gIx (eV 5) (eC (.int 1))) (eV 9)) (e2 gIx (e2 gIx (eV 5) (eC (.int 2))) (eV 9)) [some (.loc bx), some (.loc p), some (roadsD W.n E), some (.loc pn), some (.int i), some (.loc pf), s6, some (.lst (nowL (W.ts.set i (a, b, none)))), some (oD none), some (.int a), some (tbD W.n W.ts), none, none] μ2 = some (.bl true) := by
      refine e2_i (fr _ 1 (some 5) rfl rfl rfl) (fr _ 2 (some 6) rfl rfl rfl) ?_
      rw [row_ne, row_differ hab.2.1]
      · rfl
      · rw [dm 5 (by decide), dm 6 (by decide), r5, r6]
        decide
    show eAnd (e2 (gEq true) (e2 gIx (e2 gIx (eV 5) (eC (.int 0))) (eV 9)) (e2 gIx (e2 gIx (eV 5) (eC (.int 1))) (eV 9))) (e2 (gEq true) (e2 gIx (e2 gIx (eV 5) (eC (.int 1))) (eV 9)) (e2 gIx (e2 gIx (eV 5) (eC (.int 2))) (eV 9))) [some (.loc bx), some (.loc p), some (roadsD W.n E), some (.loc pn), some (.int i), some (.loc pf), s6, some (.lst (nowL (W.ts.set i (a, b, none)))), some (oD none), some (.int a), some (tbD W.n W.ts), none, none] μ2 = _
    simp only [eAnd, g1, g2, Option.bind_some, if_true]
  | some v =>
    obtain ⟨hv0, hv1⟩ := hβ v hd
    rw [hd] at fr fx
    have same_tab : ∀ m, v ≤ m → tbD W.n (W.ts.set i (a, b, some m)) = tbD W.n (W.ts.set i (a, b, none)) := fun m hm => by
      unfold tbD
      congr 1
      exact tab_congr fun s t => by
        rw [dm m (by omega)]
        exact dist_tri wr hab.1 hab.2.1 hd hm (by omega) s t
    have g0 : (triedL (some v))[1]? = some (some v) ∧ (triedL (some v))[2]? = some (some (v + 1)) ∧ (triedL (some v))[3]? = some (some (3 * v + 7)) := by
      by_cases hv : 0 < v
      · rw [tried_pos hv]
        exact ⟨rfl, rfl, rfl⟩
      · rw [tried_zero hv]
        exact ⟨rfl, rfl, rfl⟩
    refine sIf_f (is_o (o := some v) rfl) (sSeq_i ?_)
    -- the slice
    have hcut : DL.cutD ((triedL (some v)).map fun o => tbD W.n (W.ts.set i (a, b, o))) (some 1) (some 4) = [(), (), ()].map fun _ => tbD W.n (W.ts.set i (a, b, none)) := by
      have hx1 := same_tab v (Int.le_refl _)
      have hx2 := same_tab (v + 1) (by omega)
      have hx3 := same_tab (3 * v + 7) (by omega)
      by_cases hv : 0 < v
      · rw [tried_pos hv]
        show [tbD W.n (W.ts.set i (a, b, some v)), tbD W.n (W.ts.set i (a, b, some (v + 1))), tbD W.n (W.ts.set i (a, b, some (3 * v + 7)))] = _
        rw [hx1, hx2, hx3]
        rfl
      · rw [tried_zero hv]
        show [tbD W.n (W.ts.set i (a, b, some v)), tbD W.n (W.ts.set i (a, b, some (v + 1))), tbD W.n (W.ts.set i (a, b, some (3 * v + 7)))] = _
        rw [hx1, hx2, hx3]
        rfl
    rw [hd] at hpf2
    have esl : ∀ ρ : Ro, slot ρ 5 = some (.loc pf) → eSl (eV 5) (ePart (eC (.int 1))) (ePart (eC (.int 4))) ρ μ2 = some (.lst ([(), (), ()].map fun _ => tbD W.n (W.ts.set i (a, b, none)))) := fun ρ h5 => by
      have h1 : gSl μ2 (.loc pf) (some 1) (some 4) = some (.lst ([(), (), ()].map fun _ => tbD W.n (W.ts.set i (a, b, none)))) := by
        show (match itemsL μ2 (.loc pf) with | some xs => some (D.lst (DL.cutD xs (some 1) (some 4))) | none => none) = _
        rw [itemsL_loc hpf2]
        simp only [hcut]
      have h5' : eV 5 ρ μ2 = some (.loc pf) := h5
      simp only [eSl, h5', ePart, eC, Option.bind_some]
      exact h1
    have tc : eTst (e2 (gEq true) (eLc (ipSeq (eSl (eV 5) (ePart (eC (.int 1))) (ePart (eC (.int 4))))) (egName 12) (eNotT (eTst (eFn G__law_same [] 2 (eCons (eV 12) (eCons (e2 gIx (eV 5) (eC (.int 0))) eNil))))) (eV 12) [12]) (eN DL.gLst eNil)) [some (.loc bx), some (.loc p), some (roadsD W.n E), some (.loc pn), some (.int i), some (.loc pf), s6, some (.lst (nowL (W.ts.set i (a, b, none)))), some (oD (some v)), some (.int a), some (tbD W.n W.ts), none, none] μ2 = some false := by
      have key : lcGo (egName 12) (eNotT (eTst (eFn G__law_same [] 2 (eCons (eV 12) (eCons (e2 gIx (eV 5) (eC (.int 0))) eNil))))) (eV 12) [some (.loc bx), some (.loc p), some (roadsD W.n E), some (.loc pn), some (.int i), some (.loc pf), s6, some (.lst (nowL (W.ts.set i (a, b, none)))), some (oD (some v)), some (.int a), some (tbD W.n W.ts), none, none] μ2 ([(), (), ()].map fun _ => tbD W.n (W.ts.set i (a, b, none))) = some (([(), (), ()].filter fun _ => false).map fun _ => tbD W.n (W.ts.set i (a, b, none))) := by
        refine lcGo_filter (fun _ => tbD W.n (W.ts.set i (a, b, none))) (fun _ => false) (fun _ => tbD W.n (W.ts.set i (a, b, none))) _ fun u _ => ⟨[some (.loc bx), some (.loc p), some (roadsD W.n E), some (.loc pn), some (.int i), some (.loc pf), s6, some (.lst (nowL (W.ts.set i (a, b, none)))), some (oD (some v)), some (.int a), some (tbD W.n W.ts), none, some (tbD W.n (W.ts.set i (a, b, none)))], rfl, ?_, fun h => by cases h⟩
        exact not_i (tst_i (eFn_i (c_cons (d := tbD W.n (W.ts.set i (a, b, none))) rfl (c_cons (fx _ 0 none rfl rfl) c_nil)) rfl (same_ok (pl_tb hW.n3) (by decide))))
      have elc : eLc (ipSeq (eSl (eV 5) (ePart (eC (.int 1))) (ePart (eC (.int 4))))) (egName 12) (eNotT (eTst (eFn G__law_same [] 2 (eCons (eV 12) (eCons (e2 gIx (eV 5) (eC (.int 0))) eNil))))) (eV 12) [12] [some (.loc bx), some (.loc p), some (roadsD W.n E), some (.loc pn), some (.int i), some (.loc pf), s6, some (.lst (nowL (W.ts.set i (a, b, none)))), some (oD (some v)), some (.int a), some (tbD W.n W.ts), none, none] μ2 = some (.lst []) := by
        have h1 : ipSeq (eSl (eV 5) (ePart (eC (.int 1))) (ePart (eC (.int 4)))) [some (.loc bx), some (.loc p), some (roadsD W.n E), some (.loc pn), some (.int i), some (.loc pf), s6, some (.lst (nowL (W.ts.set i (a, b, none)))), some (oD (some v)), some (.int a), some (tbD W.n W.ts), none, none] μ2 = some ([(), (), ()].map fun _ => tbD W.n (W.ts.set i (a, b, none))) := by
          have hes := esl [some (.loc bx), some (.loc p), some (roadsD W.n E), some (.loc pn), some (.int i), some (.loc pf), s6, some (.lst (nowL (W.ts.set i (a, b, none)))), some (oD (some v)), some (.int a), some (tbD W.n W.ts), none, none] rfl
          simp only [ipSeq, hes, Option.bind_some, seqI, items]
        have h2 : ([(), (), ()].map fun _ => tbD W.n (W.ts.set i (a, b, none))).length ≤ 100000 := by show (3 : Nat) ≤ 100000; omega
        simp only [eLc, h1, Option.bind_some, h2, if_true, unsetAll, setS, key]
        rfl
      refine tst_i (e2_i elc (y := .lst []) rfl ?_)
      exact lst_eq_self (k := 0) (fun x hx => by simp at hx) (by decide)
    refine sIf_f tc ⟨.bl true, ?_, done⟩
    show eOr (e2 (gEq false) (eV 8) (eC (.int 0))) (e2 (gEq true) (e2 gIx (e2 gIx (eV 5) (eC (.int 4))) (eV 9)) (e2 gIx (e2 gIx (eV 5) (eC (.int 0))) (eV 9))) [some (.loc bx), some (.loc p), some (roadsD W.n E), some (.loc pn), some (.int i), some (.loc pf), s6, some (.lst (nowL (W.ts.set i (a, b, none)))), some (oD (some v)), some (.int a), some (tbD W.n W.ts), none, none] μ2 = _
    have h0 : e2 (gEq false) (eV 8) (eC (.int 0)) [some (.loc bx), some (.loc p), some (roadsD W.n E), some (.loc pn), some (.int i), some (.loc pf), s6, some (.lst (nowL (W.ts.set i (a, b, none)))), some (oD (some v)), some (.int a), some (tbD W.n W.ts), none, none] μ2 = some (.bl (decide (v = 0))) := by
      refine e2_i (x := .int v) rfl (y := .int 0) rfl ?_
      rw [eq_int]
      simp
    by_cases hv : 0 < v
    · rw [decide_eq_false (by omega)] at h0
      have g4 : (triedL (some v))[4]? = some (some (v - 1)) := by
        rw [tried_pos hv]
        rfl
      have g : e2 (gEq true) (e2 gIx (e2 gIx (eV 5) (eC (.int 4))) (eV 9)) (e2 gIx (e2 gIx (eV 5) (eC (.int 0))) (eV 9)) [some (.loc bx), some (.loc p), some (roadsD W.n E), some (.loc pn), some (.int i), some (.loc pf), s6, some (.lst (nowL (W.ts.set i (a, b, none)))), some (oD (some v)), some (.int a), some (tbD W.n W.ts), none, none] μ2 = some (.bl true) := by
        refine e2_i (fr _ 4 (some (v - 1)) rfl rfl g4) (fr _ 0 none rfl rfl rfl) ?_
        rw [row_ne, row_differ hab.2.1]
        · rfl
        · rw [dm (v - 1) (by omega), hd, dist_own wr (by omega), hd]
          have : ltO (some v) (some (v - 1)) = false := decide_eq_false (by omega)
          unfold leastO
          rw [this, if_neg Bool.false_ne_true]
          intro q
          injection q with q
          omega
      simp only [eOr, h0, g, Option.bind_some, Bool.false_eq_true, if_false]
    · rw [decide_eq_true (by omega)] at h0
      simp only [eOr, h0, Option.bind_some, if_true]
end K60
end

section
set_option maxRecDepth 100000
/-! S25: tables are shown. -/
namespace K60
open PySem PySem.Spec PyProof.Rows L2 DL Wl
def tabP (t : List (List (Option Int))) : PyData := .tuple (t.map fun r => .tuple (r.map oP))
theorem pyF_row (r : List (Option Int)) : pyF (rowT r) = some (.tuple (r.map oP)) := by
  unfold rowT
  simp only [pyF, pyFs_o]
theorem pyFs_rows : ∀ t : List (List (Option Int)), pyFs (t.map rowT) = some (t.map fun r => .tuple (r.map oP))
  | [] => rfl
  | r :: t => by
    rw [List.map_cons]
    simp only [pyFs, pyF_row, pyFs_rows t]
    rfl
theorem pyF_tab (t : List (List (Option Int))) : pyF (tabT t) = some (tabP t) := by
  unfold tabT tabP
  simp only [pyF, pyFs_rows]
theorem shownAll_map {α : Type} (f : α → PyData) : ∀ xs : List α, PyData.shownAll (xs.map f) = xs.map fun x => (f x).shown
  | [] => rfl
  | x :: r => by
    rw [List.map_cons]
    simp only [PyData.shownAll, shownAll_map f r]
    rfl
theorem showAll_of {α : Type} (f : α → PyData) : ∀ xs : List α, (∀ x ∈ xs, (f x).showable = true) → PyData.showableAll (xs.map f) = true
  | [], _ => rfl
  | x :: r, h => by
    rw [List.map_cons]
    simp only [PyData.showableAll, h x List.mem_cons_self, showAll_of f r fun y hy => h y (List.mem_cons_of_mem _ hy), Bool.and_self]
/-- small lengths -/
def Sm100 (o : Option Int) : Prop := ∀ i, o = some i → 0 ≤ i ∧ i < 10 ^ 100
theorem tup_len (ts : List Str) (c : Nat) (h : ∀ t ∈ ts, t.length ≤ c) : (tupleText ts).length ≤ ts.length * (c + 2) + 3 := by
  have h1 := StrLaws.join_length_le (", " : Str) ts
  have h2 : ((", " : Str)).length = 2 := rfl
  have h3 : (ts.map (·.length)).sum ≤ ts.length * c := by
    induction ts with
    | nil => simp
    | cons t r ih =>
      have a := h t List.mem_cons_self
      have b := ih (fun y hy => h y (List.mem_cons_of_mem _ hy)) (StrLaws.join_length_le _ _)
      simp only [List.map_cons, List.sum_cons, List.length_cons, Nat.succ_mul]
      omega
  rw [h2] at h1
  have h4 : (Str.ofString "(").length = 1 := rfl
  have h5 : (Str.ofString (if ts.length == 1 then ",)" else ")")).length ≤ 2 := by
    split <;> decide
  have h6 : (tupleText ts).length = (Str.ofString "(").length + (Str.join ", " ts).length + (Str.ofString (if ts.length == 1 then ",)" else ")")).length := by
    unfold tupleText
    rw [Str.length_append, Str.length_append]
  rw [h6, h4, Nat.mul_add]
  omega
theorem shown_o {o : Option Int} (h : Sm100 o) : (oP o).shown.length ≤ 100 := by
  cases o with
  | none => exact (by decide : (4 : Nat) ≤ 100)
  | some i =>
    obtain ⟨h0, h1⟩ := h i rfl
    exact PyProof.Rows.toString_length_le h0 (by decide) h1
theorem showable_o {o : Option Int} (h : Sm100 o) : (oP o).showable = true := by
  cases o with
  | none => rfl
  | some i =>
    obtain ⟨h0, h1⟩ := h i rfl
    have h2 : i.natAbs < 10 ^ 100 := by
      have h3 := toNat_small h0 h1
      omega
    show decide (i.natAbs.log2 < 1920) = true
    exact decide_eq_true (log_small h2)
def reprT (t : List (List (Option Int))) : Str := (tabP t).shown
theorem repr_tab {μ : Mu} {t : List (List (Option Int))} (hl : t.length ≤ 20) (hr : ∀ r ∈ t, r.length ≤ 20 ∧ ∀ o ∈ r, Sm100 o) : gRepr μ [tabT t] = some (.str (reprT t)) := by
  have h1 : pyOf μ (tabT t) = some (tabP t) := pyF_tab t
  have h2 : (tabP t).showable = true := by
    unfold tabP
    simp only [PyData.showable]
    refine showAll_of _ t fun r hm => ?_
    simp only [PyData.showable]
    exact showAll_of _ r fun o ho => showable_o ((hr r hm).2 o ho)
  obtain ⟨e, h3, h4, h5⟩ := dk_tab t
  rw [pyF_tab] at h3
  cases h3
  have h6 : (tabP t).hasDict = false := PyData.hasDict_of_canLay _ h4
  have h7 : (tabP t).shown.length ≤ 1000000 := by
    have a : (tabP t).shown = tupleText (t.map fun r => tupleText (r.map fun o => (oP o).shown)) := by
      unfold tabP
      simp only [PyData.shown, shownAll_map]
    rw [a]
    have b := tup_len (t.map fun r => tupleText (r.map fun o => (oP o).shown)) 2043 fun x hx => by
      obtain ⟨r, hm, rfl⟩ := List.mem_map.mp hx
      have c := tup_len (r.map fun o => (oP o).shown) 100 fun y hy => by
        obtain ⟨o, ho, rfl⟩ := List.mem_map.mp hy
        exact shown_o ((hr r hm).2 o ho)
      rw [List.length_map] at c
      have d : r.length * (100 + 2) ≤ 20 * 102 := Nat.mul_le_mul_right _ (hr r hm).1
      omega
    rw [List.length_map] at b
    have d : t.length * (2043 + 2) ≤ 20 * 2045 := Nat.mul_le_mul_right _ hl
    omega
  have h8 : PyProof.Rows.isDisplay (tabP t) = true := rfl
  have h9 : (tabP t).depth ≤ 60 := by omega
  simp only [gRepr, h1]
  rw [if_pos ⟨h8, h2, h6, h9, h7⟩]
  rfl
noncomputable def reprS (n : Nat) (ts : List Ty) : Str := reprT (tab n (pres ts))
theorem repr_tb {μ : Mu} {n : Nat} {ts : List Ty} (hn : n ≤ 20) (hl : ts.length ≤ 120) (tw : Tw n ts) (hs : ∀ e ∈ pres ts, e.2.2 ≤ 10 ^ 50) : gRepr μ [tbD n ts] = some (.str (reprS n ts)) := by
  refine repr_tab (by rw [tab_len]; exact hn) fun r hr => ?_
  unfold tab at hr
  obtain ⟨s, _, rfl⟩ := List.mem_map.mp hr
  refine ⟨by rw [rowOf_len]; exact hn, fun o ho i hi => ?_⟩
  unfold Wl.rowOf at ho
  obtain ⟨t, _, rfl⟩ := List.mem_map.mp ho
  have hb := dist_bound tw.wf (Nat.le_trans (pres_len _) hl) hs hi
  have := big_ok
  exact ⟨hb.1, by omega⟩
end K60
end

section
set_option maxRecDepth 100000
/-! S26: a life, what it holds. -/
namespace K60
open PySem PySem.Spec PyProof.Rows L2 DL Wl
def life0 (C : Addr) : DS := (sPar3 9 10 11 (dCons (dIf (dPT (eTst (eV 4))) (dMakeK C (S_init C) 1 2 (dCons (dP (eV 1)) dNil)) (dMake C (S_init C) 2 (dPA (eCons (eV 1) eNil)))) (dCons (dMut (dLc (iSeq (dP (e2 gIx (eV 1) (eC (.int 1))))) (dgName 17) dYes (dP (e2 gIx (eV 17) (eC (.int 2)))) [17])) (dCons (dLstM (dPA eNil)) (dPA eNil)))))
def life1 (C : Addr) : DS := (sAsg (dLstM (dPA (eCons (eFn G__law_lengths [] 2 (eCons (e2 gIx (eV 1) (eC (.int 0))) (eCons (e2 gIx (eV 1) (eC (.int 1))) eNil))) eNil))) (dgName 5))
def life2 (C : Addr) : DS := (sIf (dNotT (dTst (dFn (S__law_as_anew C) [] 4 (dPA (eCons (eV 9) (eCons (eV 1) (eCons (eV 10) (eCons (e2 gIx (eV 5) (eC (.int 0))) eNil)))))))) (sRet (dP (eC (.bl false)))) sNext)
def life3 (C : Addr) : DS := (sFor (iRg1 (dPA (eCons (eV 2) eNil))) (dgName 6) (sGh (sSeq (sPar 17 18 (dCons (dFn S__law_take [] 2 (dPA (eCons (eV 0) (eCons (eN gLen (eCons (eV 10) eNil)) eNil)))) (dCons (dFn S__law_take [] 2 (dPA (eCons (eV 0) (eCons (eC (.int 8)) eNil)))) (dPA eNil)))) (sSeq (sAsg (dP (e2 gIx (eV 10) (eV 17))) (dgName 12)) (sSeq (sAsg (dP (eIf (eTst (e2 (gIs true) (eV 12) (eC .non))) (eV 12) (e2 gMul (eC (.int 4)) (eV 3)))) (dgName 13)) (sSeq (sAsg (dOp (p2 gIx) (dLst (dCons (dP (eC (.int 0))) (dCons (dP (e2 gAdd (eV 13) (eV 3))) (dCons (dP (eN gMax (eCons (eC (.int 0)) (eCons (e2 (gArith fun i j => i - j) (eV 13) (eV 3)) eNil)))) (dCons (dP (eC .non)) (dCons (dOp (p2 gMul) (dP (eV 3)) (dFn S__law_take [] 2 (dPA (eCons (eV 0) (eCons (eC (.int 12)) eNil))))) (dPA (eCons (e2 gAdd (eV 13) (eC (.int 1))) (eCons (eN gMax (eCons (eC (.int 0)) (eCons (e2 (gArith fun i j => i - j) (eV 13) (eC (.int 1))) eNil))) (eCons (eV 13) eNil)))))))))) (dP (eV 18))) (dgName 14)) (sSeq (sAsg (dP (eV 14)) (dgSub (dP (eV 10)) (dP (eV 17)))) (sSeq (sIf (dTst (dOp (p2 (gIs true)) (dIf (dPT (eTst (eV 4))) (dMtK C "set_length" (S_set_length C) 2 3 (dP (eV 9)) (dCons (dP (eV 17)) (dCons (dP (eV 14)) dNil))) (dMt C "set_length" (S_set_length C) 3 (dP (eV 9)) (dPA (eCons (eV 17) (eCons (eV 14) eNil))))) (dP (eC .non)))) (sRet (dP (eC (.bl false)))) sNext) (sSeq (sDrop (dBM fApp (dP (eV 5)) (dPA (eCons (eFn G__law_lengths [] 2 (eCons (e2 gIx (eV 1) (eC (.int 0))) (eCons (e2 gIx (eFn G__law_map_now [] 2 (eCons (eV 1) (eCons (eV 10) eNil))) (eC (.int 1))) eNil))) eNil)))) (sSeq (sAsg (dMt C "lengths" (pN (G_Watch_lengths C)) 1 (dP (eV 9)) dNil) (dgName 15)) (sSeq (sDrop (dBM fApp (dP (eV 11)) (dPA (eCons (eN DL.gLst (eCons (eV 15) (eCons (eN gRepr (eCons (e2 gIx (eV 5) (e1 gNeg (eC (.int 1)))) eNil)) eNil))) eNil)))) (sSeq (sIf (dPT (eOrT (eNotT (eTst (eFn G__law_same [] 2 (eCons (eV 15) (eCons (e2 gIx (eV 5) (e1 gNeg (eC (.int 1)))) eNil))))) (eNotT (eTst (eFn G__law_bounded [] 4 (eCons (e2 gIx (eV 5) (e1 gNeg (eC (.int 2)))) (eCons (eV 15) (eCons (eV 12) (eCons (eV 14) eNil))))))))) (sRet (dP (eC (.bl false)))) sNext) (sIf (dAndT (dPT (eTst (e2 (gEq false) (e2 gMod (eV 6) (eC (.int 6))) (eC (.int 0))))) (dOrT (dNotT (dTst (dFn (S__law_as_anew C) [] 4 (dPA (eCons (eV 9) (eCons (eV 1) (eCons (eV 10) (eCons (e2 gIx (eV 5) (e1 gNeg (eC (.int 1)))) eNil)))))))) (dNotT (dTst (dFn (S__law_enough_right C) [] 4 (dPA (eCons (eV 0) (eCons (eV 9) (eCons (eV 1) (eCons (eV 10) eNil)))))))))) (sRet (dP (eC (.bl false)))) sNext)))))))))))))
def life4 (C : Addr) : DS := (sFor (iRg1 (dPA (eCons (eC (.int 2)) eNil))) (dgName 7) (sGh (sSeq (sAsg (dMake C (S_init C) 2 (dPA (eCons (eV 1) eNil))) (dgName 16)) (sSeq (sFor (iSeq (dFn S__law_mixed [] 2 (dPA (eCons (eV 0) (eCons (e1 (fun μ x => gRg μ [x]) (eN gLen (eCons (eV 10) eNil))) eNil))))) (dgName 17) (sGh (sIf (dTst (dOp (p2 (gIs true)) (dMt C "set_length" (S_set_length C) 3 (dP (eV 16)) (dPA (eCons (eV 17) (eCons (e2 gIx (eV 10) (eV 17)) eNil)))) (dP (eC .non)))) (sRet (dP (eC (.bl false)))) sNext))) (sIf (dNotT (dTst (dFn (pN G__law_same) [] 2 (dCons (dMt C "lengths" (pN (G_Watch_lengths C)) 1 (dP (eV 16)) dNil) (dPA (eCons (e2 gIx (eV 5) (e1 gNeg (eC (.int 1)))) eNil)))))) (sRet (dP (eC (.bl false)))) sNext)))))
def life5 (C : Addr) : DS := (sAsg (dFn (S_read_watch C) [] 1 (dCons (dMt C "lines" (S_lines C) 1 (dP (eV 9)) dNil) (dPA eNil))) (dgName 8))
def life6 (C : Addr) : DS := (sFor (iRg1 (dPA (eCons (eV 2) eNil))) (dgName 6) (sGh (sSeq (sDrop (dBM0 fPop (dP (eV 5)))) (sFor (iSeq (dP (eN DL.gLst (eCons (eV 9) (eCons (eV 8) eNil))))) (dgName 13) (sGh (sIf (dOrT (dTst (dOp (p2 (gIs true)) (dMt C "undo" (S_undo C) 1 (dP (eV 13)) dNil) (dP (eC .non)))) (dNotT (dTst (dFn (pN G__law_same) [] 2 (dCons (dMt C "lengths" (pN (G_Watch_lengths C)) 1 (dP (eV 13)) dNil) (dPA (eCons (e2 gIx (eV 5) (e1 gNeg (eC (.int 1)))) eNil))))))) (sRet (dP (eC (.bl false)))) sNext))))))
def life7 (C : Addr) : DS := (sIf (dNotT (dTst (dFn (pN G__law_same) [] 2 (dCons (dLst (dCons (dMt C "map" (pN (G_Watch_map C)) 1 (dP (eV 9)) dNil) (dCons (dMt C "map" (pN (G_Watch_map C)) 1 (dP (eV 8)) dNil) (dCons (dMt C "changes" (pN (G_Watch_changes C)) 1 (dP (eV 9)) dNil) (dCons (dMt C "changes" (pN (G_Watch_changes C)) 1 (dP (eV 8)) dNil) (dPA eNil)))))) (dPA (eCons (eN DL.gLst (eCons (eV 1) (eCons (eV 1) (eCons (eN DL.gLst eNil) (eCons (eN DL.gLst eNil) eNil))))) eNil)))))) (sRet (dP (eC (.bl false)))) sNext)
def life8 (C : Addr) : DS := (sRet (dP (e2 (gEq false) (eLc (ipSeq (eV 11)) (egUnl 2 (egCons (egName 15) (egCons (egName 19) egNil))) (eTst (e2 (gEq true) (eN gRepr (eCons (eV 15) eNil)) (eV 19))) (eC (.int 1)) [15, 19]) (eN DL.gLst eNil))))
/-- the addresses of a life -/
structure Fx (μ0 : Mu) (bx p q pn ps ph : Addr) : Prop where
  xbp : bx ≠ p
  xbq : bx ≠ q
  xbn : bx ≠ pn
  xbs : bx ≠ ps
  xbh : bx ≠ ph
  xpq : p ≠ q
  xpn : p ≠ pn
  xps : p ≠ ps
  xph : p ≠ ph
  xqn : q ≠ pn
  xqs : q ≠ ps
  xqh : q ≠ ph
  xns : pn ≠ ps
  xnh : pn ≠ ph
  xsh : ps ≠ ph
  xp0 : μ0 p = none
  xq0 : μ0 q = none
  xn0 : μ0 pn = none
  xs0 : μ0 ps = none
  xh0 : μ0 ph = none
/-- what lies there -/
structure Mm (C : Addr) (μ0 : Mu) (bx p q pn ps ph : Addr) (μ : Mu) (l : List D) (W : WS) (ns ss hs : List D) : Prop where
  box : μ bx = some (.lst l)
  wp : μ p = some (mW C q W)
  wq : μ q = some (dW W)
  now : μ pn = some (.lst ns)
  sts : μ ps = some (.lst ss)
  hld : μ ph = some (.lst hs)
  ext : ∀ a m, a ≠ bx → μ0 a = some m → μ a = some m
section
variable {C : Addr} {μ0 μ : Mu} {bx p q pn ps ph : Addr} {l l' : List D} {W W' : WS} {ns ns' ss ss' hs hs' : List D}
theorem Mm.setBox (F : Fx μ0 bx p q pn ps ph) (h : Mm C μ0 bx p q pn ps ph μ l W ns ss hs) : Mm C μ0 bx p q pn ps ph (updM μ bx (.lst l')) l' W ns ss hs :=
  ⟨updM_same, by rw [updM_ne F.xbp.symm]; exact h.wp, by rw [updM_ne F.xbq.symm]; exact h.wq, by rw [updM_ne F.xbn.symm]; exact h.now, by rw [updM_ne F.xbs.symm]; exact h.sts, by rw [updM_ne F.xbh.symm]; exact h.hld, fun a m ha hm => by rw [updM_ne ha]; exact h.ext a m ha hm⟩
theorem Mm.setNow (F : Fx μ0 bx p q pn ps ph) (h : Mm C μ0 bx p q pn ps ph μ l W ns ss hs) : Mm C μ0 bx p q pn ps ph (updM μ pn (.lst ns')) l W ns' ss hs :=
  ⟨by rw [updM_ne F.xbn]; exact h.box, by rw [updM_ne F.xpn]; exact h.wp, by rw [updM_ne F.xqn]; exact h.wq, updM_same, by rw [updM_ne F.xns.symm]; exact h.sts, by rw [updM_ne F.xnh.symm]; exact h.hld, fun a m ha hm => by rw [updM_ne (ne_of_mu hm F.xn0)]; exact h.ext a m ha hm⟩
theorem Mm.setSts (F : Fx μ0 bx p q pn ps ph) (h : Mm C μ0 bx p q pn ps ph μ l W ns ss hs) : Mm C μ0 bx p q pn ps ph (updM μ ps (.lst ss')) l W ns ss' hs :=
  ⟨by rw [updM_ne F.xbs]; exact h.box, by rw [updM_ne F.xps]; exact h.wp, by rw [updM_ne F.xqs]; exact h.wq, by rw [updM_ne F.xns]; exact h.now, updM_same, by rw [updM_ne F.xsh.symm]; exact h.hld, fun a m ha hm => by rw [updM_ne (ne_of_mu hm F.xs0)]; exact h.ext a m ha hm⟩
theorem Mm.setHld (F : Fx μ0 bx p q pn ps ph) (h : Mm C μ0 bx p q pn ps ph μ l W ns ss hs) : Mm C μ0 bx p q pn ps ph (updM μ ph (.lst hs')) l W ns ss hs' :=
  ⟨by rw [updM_ne F.xbh]; exact h.box, by rw [updM_ne F.xph]; exact h.wp, by rw [updM_ne F.xqh]; exact h.wq, by rw [updM_ne F.xnh]; exact h.now, by rw [updM_ne F.xsh]; exact h.sts, updM_same, fun a m ha hm => by rw [updM_ne (ne_of_mu hm F.xh0)]; exact h.ext a m ha hm⟩
theorem Mm.setW (F : Fx μ0 bx p q pn ps ph) (h : Mm C μ0 bx p q pn ps ph μ l W ns ss hs) : Mm C μ0 bx p q pn ps ph (putW C μ p q W') l W' ns ss hs := by
  unfold putW
  refine ⟨?_, ?_, updM_same, ?_, ?_, ?_, fun a m ha hm => ?_⟩
  · rw [updM_ne F.xbq, updM_ne F.xbp]; exact h.box
  · rw [updM_ne F.xpq, updM_same]
  · rw [updM_ne F.xqn.symm, updM_ne F.xpn.symm]; exact h.now
  · rw [updM_ne F.xqs.symm, updM_ne F.xps.symm]; exact h.sts
  · rw [updM_ne F.xqh.symm, updM_ne F.xph.symm]; exact h.hld
  · rw [updM_ne (ne_of_mu hm F.xq0), updM_ne (ne_of_mu hm F.xp0)]; exact h.ext a m ha hm
theorem Mm.of_ext (h : Mm C μ0 bx p q pn ps ph μ l W ns ss hs) {μ' : Mu} (e : Ext μ μ') : Mm C μ0 bx p q pn ps ph μ' l W ns ss hs :=
  ⟨e _ _ h.box, e _ _ h.wp, e _ _ h.wq, e _ _ h.now, e _ _ h.sts, e _ _ h.hld, fun a m ha hm => e _ _ (h.ext a m ha hm)⟩
end
/-- what a watch must be, apart from where it lies -/
structure Wg (W : WS) : Prop where
  n1 : 1 ≤ W.n
  n2 : W.n ≤ 20
  tl : W.ts.length ≤ 120
  tw : Tw W.n W.ts
  hl : W.hd.length ≤ 1000
  dl : W.dn.length ≤ 1000
theorem Wg.wat {W : WS} (g : Wg W) {C : Addr} {μ : Mu} {p q : Addr} (hp : μ p = some (mW C q W)) (hq : μ q = some (dW W)) (pq : p ≠ q) : Wat C μ p q W := ⟨hp, hq, pq, g.n1, g.n2, g.tl, g.tw, g.hl, g.dl⟩
theorem Wat.wg {C : Addr} {μ : Mu} {p q : Addr} {W : WS} (h : Wat C μ p q W) : Wg W := ⟨h.n1, h.n2, h.tl, h.tw, h.hl, h.dl⟩
/-- the bound of the lengths behind k changes -/
def Lb (k : Nat) (u : Int) : Int := (20 + (k : Int)) * u
theorem Lb_succ (k : Nat) (u : Int) : Lb (k + 1) u = Lb k u + u := by
  unfold Lb
  rw [show ((k + 1 : Nat) : Int) = (k : Int) + 1 by omega, ← Int.add_assoc, Int.add_mul _ 1, Int.one_mul]
theorem Lb_lo {k : Nat} {u : Int} (hu : 1 ≤ u) : 11 * u ≤ Lb k u := by
  unfold Lb
  exact Int.mul_le_mul_of_nonneg_right (by omega) (by omega)
theorem Lb_hi {k : Nat} {u : Int} (hu : 1 ≤ u) (hu2 : u ≤ 4 * 10 ^ 38) (hk : k ≤ 41) : Lb k u ≤ 10 ^ 50 := by
  have h1 : Lb k u ≤ 61 * u := by
    unfold Lb
    exact Int.mul_le_mul_of_nonneg_right (by omega) (by omega)
  have h2 : 61 * u ≤ 10 ^ 50 := by
    have : (61 : Int) * (4 * 10 ^ 38) ≤ 10 ^ 50 := by decide
    omega
  omega
/-- the states of a life -/
noncomputable def stL (n : Nat) (E : List Edge) (chs : List (Nat × Option Int)) : List D := (List.range (chs.length + 1)).map fun j => tbD n (tsAt (tyE E) (chs.take j))
theorem stL_len (n : Nat) (E : List Edge) (chs : List (Nat × Option Int)) : (stL n E chs).length = chs.length + 1 := by
  unfold stL
  rw [List.length_map, List.length_range]
theorem stL_snoc (n : Nat) (E : List Edge) (chs : List (Nat × Option Int)) (c : Nat × Option Int) : stL n E (chs ++ [c]) = stL n E chs ++ [tbD n (tsAt (tyE E) (chs ++ [c]))] := by
  unfold stL
  rw [List.length_append, List.length_singleton, List.range_succ, List.map_append]
  congr 1
  · refine List.map_congr_left fun j hj => ?_
    rw [List.mem_range] at hj
    rw [List.take_append_of_le_length (by omega)]
  · show [_] = [_]
    have : (chs ++ [c]).take (chs.length + 1) = chs ++ [c] := List.take_of_length_le (by rw [List.length_append, List.length_singleton]; omega)
    simp only [this]
theorem stL_last (n : Nat) (E : List Edge) (chs : List (Nat × Option Int)) : (stL n E chs)[chs.length]? = some (tbD n (tsAt (tyE E) chs)) := by
  unfold stL
  rw [List.getElem?_map, List.getElem?_range (by omega), Option.map_some, List.take_of_length_le (Nat.le_refl _)]
theorem neg1 {μ : Mu} {p : Addr} {xs : List D} {m : Nat} {d : D} (h : μ p = some (.lst xs)) (hl : xs.length = m + 1) (hd : xs[m]? = some d) : gIx μ (.loc p) (.int (-1)) = some d := by
  have h1 : ixN xs.length (-1) = some m := by
    unfold ixN
    rw [if_neg (by omega), if_pos (by omega)]
    congr 1
    omega
  simp only [gIx, items, h]
  unfold atI
  rw [h1]
  exact hd
theorem neg2 {μ : Mu} {p : Addr} {xs : List D} {m : Nat} {d : D} (h : μ p = some (.lst xs)) (hl : xs.length = m + 2) (hd : xs[m]? = some d) : gIx μ (.loc p) (.int (-2)) = some d := by
  have h1 : ixN xs.length (-2) = some m := by
    unfold ixN
    rw [if_neg (by omega), if_pos (by omega)]
    congr 1
    omega
  simp only [gIx, items, h]
  unfold atI
  rw [h1]
  exact hd
end K60
end

section
set_option maxRecDepth 100000
/-! S27: a turn of a life. -/
namespace K60
open PySem PySem.Spec PyProof.Rows L2 DL Wl
def turnD (C : Addr) : DS := (sGh (sSeq (sPar 17 18 (dCons (dFn S__law_take [] 2 (dPA (eCons (eV 0) (eCons (eN gLen (eCons (eV 10) eNil)) eNil)))) (dCons (dFn S__law_take [] 2 (dPA (eCons (eV 0) (eCons (eC (.int 8)) eNil)))) (dPA eNil)))) (sSeq (sAsg (dP (e2 gIx (eV 10) (eV 17))) (dgName 12)) (sSeq (sAsg (dP (eIf (eTst (e2 (gIs true) (eV 12) (eC .non))) (eV 12) (e2 gMul (eC (.int 4)) (eV 3)))) (dgName 13)) (sSeq (sAsg (dOp (p2 gIx) (dLst (dCons (dP (eC (.int 0))) (dCons (dP (e2 gAdd (eV 13) (eV 3))) (dCons (dP (eN gMax (eCons (eC (.int 0)) (eCons (e2 (gArith fun i j => i - j) (eV 13) (eV 3)) eNil)))) (dCons (dP (eC .non)) (dCons (dOp (p2 gMul) (dP (eV 3)) (dFn S__law_take [] 2 (dPA (eCons (eV 0) (eCons (eC (.int 12)) eNil))))) (dPA (eCons (e2 gAdd (eV 13) (eC (.int 1))) (eCons (eN gMax (eCons (eC (.int 0)) (eCons (e2 (gArith fun i j => i - j) (eV 13) (eC (.int 1))) eNil))) (eCons (eV 13) eNil)))))))))) (dP (eV 18))) (dgName 14)) (sSeq (sAsg (dP (eV 14)) (dgSub (dP (eV 10)) (dP (eV 17)))) (sSeq (sIf (dTst (dOp (p2 (gIs true)) (dIf (dPT (eTst (eV 4))) (dMtK C "set_length" (S_set_length C) 2 3 (dP (eV 9)) (dCons (dP (eV 17)) (dCons (dP (eV 14)) dNil))) (dMt C "set_length" (S_set_length C) 3 (dP (eV 9)) (dPA (eCons (eV 17) (eCons (eV 14) eNil))))) (dP (eC .non)))) (sRet (dP (eC (.bl false)))) sNext) (sSeq (sDrop (dBM fApp (dP (eV 5)) (dPA (eCons (eFn G__law_lengths [] 2 (eCons (e2 gIx (eV 1) (eC (.int 0))) (eCons (e2 gIx (eFn G__law_map_now [] 2 (eCons (eV 1) (eCons (eV 10) eNil))) (eC (.int 1))) eNil))) eNil)))) (sSeq (sAsg (dMt C "lengths" (pN (G_Watch_lengths C)) 1 (dP (eV 9)) dNil) (dgName 15)) (sSeq (sDrop (dBM fApp (dP (eV 11)) (dPA (eCons (eN DL.gLst (eCons (eV 15) (eCons (eN gRepr (eCons (e2 gIx (eV 5) (e1 gNeg (eC (.int 1)))) eNil)) eNil))) eNil)))) (sSeq (sIf (dPT (eOrT (eNotT (eTst (eFn G__law_same [] 2 (eCons (eV 15) (eCons (e2 gIx (eV 5) (e1 gNeg (eC (.int 1)))) eNil))))) (eNotT (eTst (eFn G__law_bounded [] 4 (eCons (e2 gIx (eV 5) (e1 gNeg (eC (.int 2)))) (eCons (eV 15) (eCons (eV 12) (eCons (eV 14) eNil))))))))) (sRet (dP (eC (.bl false)))) sNext) (sIf (dAndT (dPT (eTst (e2 (gEq false) (e2 gMod (eV 6) (eC (.int 6))) (eC (.int 0))))) (dOrT (dNotT (dTst (dFn (S__law_as_anew C) [] 4 (dPA (eCons (eV 9) (eCons (eV 1) (eCons (eV 10) (eCons (e2 gIx (eV 5) (e1 gNeg (eC (.int 1)))) eNil)))))))) (dNotT (dTst (dFn (S__law_enough_right C) [] 4 (dPA (eCons (eV 0) (eCons (eV 9) (eCons (eV 1) (eCons (eV 10) eNil)))))))))) (sRet (dP (eC (.bl false)))) sNext))))))))))))
theorem life3_eq (C : Addr) : life3 C = sFor (iRg1 (dPA (eCons (eV 2) eNil))) (dgName 6) (turnD C) := rfl
def GoodT (n : Nat) (ts : List Ty) : Prop := ts.length ≤ 120 ∧ Tw n ts ∧ ∀ e ∈ pres ts, e.2.2 ≤ 10 ^ 50
/-- a life behind its changes -/
structure Ls (n : Nat) (E : List Edge) (u : Int) (chs : List (Nat × Option Int)) (W : WS) (hs : List D) : Prop where
  H : Hist (newW n E) chs W
  g : Wg W
  sm : ∀ t ∈ W.ts, ∀ l, t.2.2 = some l → l ≤ Lb chs.length u
  ck : ∀ c ∈ chs, Cc E.length c
  hl : hs.length = chs.length
  hs : ∀ h ∈ hs, ∃ ts, h = .lst [tbD n ts, .str (reprS n ts)] ∧ GoodT n ts
theorem Hist.ends {n : Nat} {E : List Edge} {chs : List (Nat × Option Int)} {W : WS} (h : Hist (newW n E) chs W) : EndsOk E W.ts := by
  induction h with
  | nil =>
    show _ = (tyE E).map K60.ends
    unfold tyE
    rw [List.map_map]
    rfl
  | snoc h1 h2 ih =>
    show _ = (List.set _ _ _).map K60.ends
    rw [ends_set h2]
    exact ih
theorem nowL_set {ts : List Ty} {i a b : Nat} {o : Option Int} : (nowL ts).set i (oD o) = nowL (ts.set i (a, b, o)) := by
  unfold nowL
  rw [List.map_set]
theorem pres_le {ts : List Ty} {L : Int} (h : ∀ t ∈ ts, ∀ l, t.2.2 = some l → l ≤ L) : ∀ e ∈ pres ts, e.2.2 ≤ L := fun e he => by
  unfold pres at he
  obtain ⟨t, ht, h2⟩ := List.mem_filterMap.mp he
  obtain ⟨a, b, o⟩ := t
  cases o with
  | none => cases h2
  | some m =>
    cases h2
    exact h _ ht m rfl
theorem Ls.good {n : Nat} {E : List Edge} {u : Int} {chs : List (Nat × Option Int)} {W : WS} {hs : List D} (L : Ls n E u chs W hs) (hu : 1 ≤ u) (hu2 : u ≤ 4 * 10 ^ 38) (hk : chs.length ≤ 41) : GoodT n W.ts := by
  have hn : W.n = n := L.H.n
  have := Lb_hi hu hu2 hk
  refine ⟨L.g.tl, hn ▸ L.g.tw, pres_le fun t ht l hl => ?_⟩
  have := L.sm t ht l hl
  omega
theorem setl_i {C : Addr} {ρ : Ro} {μ : Mu} {k : DK} {bn : Bool} {p q : Addr} {W : WS} {i a b : Nat} {o o' : Option Int} (h4 : slot ρ 4 = some (.bl bn)) (h9 : slot ρ 9 = some (.loc p)) (h17 : slot ρ 17 = some (.int i)) (h14 : slot ρ 14 = some (oD o')) (hW : Wat C μ p q W) (hi : W.ts[i]? = some (a, b, o)) (ho : ∀ l, o' = some l → 0 ≤ l ∧ l < 10 ^ 100) (hd : W.dn.length < 1000)
    (hk : ∀ c, k .non (putW C μ p q (W.set i a b o' c))) : dIf (dPT (eTst (eV 4))) (dMtK C "set_length" (S_set_length C) 2 3 (dP (eV 9)) (dCons (dP (eV 17)) (dCons (dP (eV 14)) dNil))) (dMt C "set_length" (S_set_length C) 3 (dP (eV 9)) (dPA (eCons (eV 17) (eCons (eV 14) eNil)))) ρ μ k := by
  have t4 : eTst (eV 4) ρ μ = some bn := tst_i h4
  refine ⟨bn, t4, ?_⟩
  cases bn with
  | true => exact if_yes ⟨.loc p, h9, ⟨_, hW.mp, rfl⟩, .int i, h17, oD o', h14, rfl, rfl, p, q, W, i, a, b, o, o', rfl, hW, hi, ho, hd, hk⟩
  | false => exact if_no ⟨.loc p, h9, ⟨_, hW.mp, rfl⟩, [.int i, oD o'], c_cons h17 (c_cons h14 c_nil), rfl, p, q, W, i, a, b, o, o', rfl, hW, hi, ho, hd, hk⟩
theorem max_i {μ : Mu} {i j : Int} : gMax μ [.int i, .int j] = some (.int (if j > i then j else i)) := rfl
/-- the new length -/
theorem newO_ok {s u : Int} {r w : Nat} {L : Int} (hs0 : 0 ≤ s) (hs : s ≤ L) (hu : 1 ≤ u) (h11 : 11 * u ≤ L) (hr : r < 12) (hw : w < 8) : ∃ o : Option Int, [D.int 0, .int (s + u), .int (if s - u > 0 then s - u else 0), .non, .int (u * r), .int (s + 1), .int (if s - 1 > 0 then s - 1 else 0), .int s][w]? = some (oD o) ∧ ∀ l, o = some l → 0 ≤ l ∧ l ≤ L + u := by
  have hur : 0 ≤ u * (r : Int) ∧ u * (r : Int) ≤ 11 * u := by
    constructor
    · exact Int.mul_nonneg (by omega) (by omega)
    · rw [Int.mul_comm 11 u]
      exact Int.mul_le_mul_of_nonneg_left (by omega) (by omega)
  rcases (by omega : w = 0 ∨ w = 1 ∨ w = 2 ∨ w = 3 ∨ w = 4 ∨ w = 5 ∨ w = 6 ∨ w = 7) with e | e | e | e | e | e | e | e <;> subst e
  · exact ⟨some 0, rfl, fun l hl => by cases hl; omega⟩
  · exact ⟨some (s + u), rfl, fun l hl => by cases hl; omega⟩
  · exact ⟨some _, rfl, fun l hl => by cases hl; split <;> omega⟩
  · exact ⟨none, rfl, fun l hl => by cases hl⟩
  · exact ⟨some _, rfl, fun l hl => by cases hl; omega⟩
  · exact ⟨some _, rfl, fun l hl => by cases hl; omega⟩
  · exact ⟨some _, rfl, fun l hl => by cases hl; split <;> omega⟩
  · exact ⟨some _, rfl, fun l hl => by cases hl; omega⟩
/-- the slots of a life -/
def Sl (bx : Addr) (R : D) (mny : Int) (u : Int) (bn : Bool) (ps : Addr) (k : Int) (r7 r8 : Option D) (p pn ph : Addr) (r12 r13 r14 r15 r16 r17 r18 : Option D) : Ro :=
  [some (.loc bx), some R, some (.int mny), some (.int u), some (.bl bn), some (.loc ps), some (.int k), r7, r8, some (.loc p), some (.loc pn), some (.loc ph), r12, r13, r14, r15, r16, r17, r18, none]
end K60
end

section
set_option maxRecDepth 100000
/-! S28: a turn of a life runs through. -/
namespace K60
open PySem PySem.Spec PyProof.Rows L2 DL Wl
theorem nowL_len (ts : List Ty) : (nowL ts).length = ts.length := by
  unfold nowL
  rw [List.length_map]
theorem small_of {x : Int} (h : x ≤ 10 ^ 50 + 4 * 10 ^ 38) : x < 10 ^ 100 := by
  have : (10 : Int) ^ 50 + 4 * 10 ^ 38 < 10 ^ 100 := by decide
  omega
theorem turn_ok {C : Addr} {μ0 μ : Mu} {bx p q pn ps ph : Addr} {l : List D} {W : WS} {hs : List D} {n : Nat} {E : List Edge} {u : Int} {chs : List (Nat × Option Int)} {T : Nat} {mny : Int} {bn : Bool} {k : Nat} {r12 r13 r14 r15 r17 r18 : Option D} {E' : DEnds} {N : Ro → Mu → Prop}
    (F : Fx μ0 bx p q pn ps ph) (hM : Mt n E) (hE1 : 1 ≤ E.length) (hu : 1 ≤ u) (hu2 : u ≤ 4 * 10 ^ 38) (m : Mm C μ0 bx p q pn ps ph μ l W (nowL W.ts) (stL n E chs) hs) (B : BoxL T l) (hT : T + 4000 ≤ 1000000000) (L : Ls n E u chs W hs) (hk : chs.length < 40)
    (hN : ∀ (ρ' : Ro) (μ' : Mu) (l' : List D) (c : Nat × Option Int) (W' : WS) (hs' : List D) (q12 q13 q14 q15 q17 q18 : Option D), ρ' = Sl bx (roadsD n E) mny u bn ps k none none p pn ph q12 q13 q14 q15 none q17 q18 → Mm C μ0 bx p q pn ps ph μ' l' W' (nowL W'.ts) (stL n E (chs ++ [c])) hs' → BoxL (T + 4) l' → Ls n E u (chs ++ [c]) W' hs' → N ρ' μ') :
    turnD C { E' with nx := N, ct := N, bk := E'.nx } (Sl bx (roadsD n E) mny u bn ps k none none p pn ph r12 r13 r14 r15 none r17 r18) μ := by
  have hWn : W.n = n := L.H.n
  have hWl : W.ts.length = E.length := by rw [L.H.len, newW_len]
  have hml := hM.map.m
  have hmn := hM.map.n2
  have hdl : W.dn.length = chs.length := by
    rw [L.H.dnl]
    show 0 + _ = _
    omega
  have hL := Lb_hi hu hu2 (k := chs.length) (by omega)
  have h11 := Lb_lo (k := chs.length) hu
  unfold turnD
  have elen0 : eN gLen (eCons (eV 10) eNil) (Sl bx (roadsD n E) mny u bn ps k none none p pn ph r12 r13 r14 r15 none r17 r18) μ = some (.int (W.ts.length : Nat)) := by
    refine eN_i (c_cons (d := .loc pn) rfl c_nil) ?_
    rw [len_items (items_loc m.now), nowL_len]
  refine sGh_i (sSeq_i ⟨[.loc bx, .int (W.ts.length : Nat)], c_cons (d := .loc bx) rfl (c_cons elen0 c_nil), rfl, bx, l, T, W.ts.length, rfl, m.box, B, by omega, by omega, by omega, fun i l1 hi' B1 => ?_⟩)
  refine ⟨[.loc bx, .int (8 : Nat)], rfl, rfl, bx, l1, T + 1, 8, rfl, updM_same, B1, by omega, by decide, by decide, fun w l2 hw B2 => ⟨[], rfl, sSeq_i ?_⟩⟩
  rw [updM_twice]
  obtain ⟨a, b, o0, hi⟩ := get_ty hi'
  have hab := L.g.tw _ (List.mem_of_getElem? hi)
  have m2 := m.setBox F (l' := l2)
  have hold : gIx (updM μ bx (.lst l2)) (.loc pn) (.int i) = some (oD o0) := by
    refine ix_loc m2.now ?_
    unfold nowL
    rw [List.getElem?_map, hi]
    rfl
  refine ⟨oD o0, e2_i (x := .loc pn) rfl (y := .int i) rfl hold, sSeq_i ?_⟩
  -- some
  obtain ⟨s, hs0, hsL, es⟩ : ∃ s : Int, 0 ≤ s ∧ s ≤ Lb chs.length u ∧ eIf (eTst (e2 (gIs true) (eV 12) (eC .non))) (eV 12) (e2 gMul (eC (.int 4)) (eV 3)) (Sl bx (roadsD n E) mny u bn ps k none none p pn ph (some (oD o0)) r13 r14 r15 none (some (.int i)) (some (.int w))) (updM μ bx (.lst l2)) = some (.int s) := by
    cases o0 with
    | none => exact ⟨4 * u, by omega, by omega, if_fi (is_o (o := none) rfl) (e2_i (x := .int 4) rfl (y := .int u) rfl (mul_ok (by decide)))⟩
    | some x => exact ⟨x, (hab.2.2.2 x rfl).1, L.sm _ (List.mem_of_getElem? hi) x rfl, if_ti (is_o (o := some x) rfl) rfl⟩
  refine ⟨.int s, es, sSeq_i ?_⟩
  refine ⟨.int 0, rfl, .int (s + u), rfl, .int (if s - u > 0 then s - u else 0), ?_, .non, rfl, .int u, rfl, [.loc bx, .int (12 : Nat)], rfl, rfl, bx, l2, T + 2, 12, rfl, m2.box, B2, by omega, by decide, by decide, fun r l3 hr B3 => ?_⟩
  · exact eN_i (c_cons (d := .int 0) rfl (c_cons (e2_i (x := .int s) rfl (y := .int u) rfl rfl) c_nil)) max_i
  rw [updM_twice]
  have m3 := m.setBox F (l' := l3)
  obtain ⟨o', hvo, hol⟩ := newO_ok (w := w) (r := r) hs0 hsL hu h11 hr hw
  have hol2 : ∀ x, o' = some x → 0 ≤ x ∧ x < 10 ^ 100 := fun x hx => by
    obtain ⟨h1, h2⟩ := hol x hx
    exact ⟨h1, small_of (by omega)⟩
  refine ⟨.int (u * r), mul_ok' (by omega), [.int (s + 1), .int (if s - 1 > 0 then s - 1 else 0), .int s], ?_, by show (8 : Nat) ≤ 100000; omega, .int w, rfl, oD o', ix_lst hvo, sSeq_i ?_⟩
  · exact c_cons (e2_i (x := .int s) rfl (y := .int 1) rfl rfl) (c_cons (eN_i (c_cons (d := .int 0) rfl (c_cons (e2_i (x := .int s) rfl (y := .int 1) rfl rfl) c_nil)) max_i) (c_cons (d := .int s) rfl c_nil))
  refine ⟨oD o', rfl, .loc pn, rfl, .int i, rfl, lstAt_i m3.now ⟨i, ixN_nat (by rw [nowL_len]; exact hi'), sSeq_i ?_⟩⟩
  rw [nowL_set (a := a) (b := b)]
  have m4 := m3.setNow F (ns' := nowL (W.ts.set i (a, b, o')))
  refine setl_i (bn := bn) (p := p) (q := q) (W := W) (i := i) (a := a) (b := b) (o := o0) (o' := o') rfl rfl rfl rfl (L.g.wat m4.wp m4.wq F.xpq) hi hol2 (by omega) fun c => ⟨.non, rfl, .bl false, is_non, if_no (sSeq_i ?_)⟩
  have m5 := m4.setW F (W' := W.set i a b o' c)
  have H' : Hist (newW n E) (chs ++ [(i, o')]) (W.set i a b o' c) := .snoc L.H hi
  have g' : Wg (W.set i a b o' c) := ((L.g.wat m4.wp m4.wq F.xpq).setOk (c := c) hi hol2 (by omega)).wg
  generalize hμ5 : putW C (updM (updM μ bx (.lst l3)) pn (.lst (nowL (W.ts.set i (a, b, o'))))) p q (W.set i a b o' c) = μ5 at m5 ⊢
  have wt5 := g'.wat m5.wp m5.wq F.xpq
  have hts' : (W.set i a b o' c).ts = tsAt (tyE E) (chs ++ [(i, o')]) := H'.ts
  have hts0 : W.ts = tsAt (tyE E) chs := L.H.ts
  have hn' : (W.set i a b o' c).n = n := hWn
  have tl' : (W.set i a b o' c).ts.length ≤ 1000 := Nat.le_trans g'.tl (by decide)
  have wf' : Wf n (pres (W.set i a b o' c).ts) := hn' ▸ g'.tw.wf
  have hmnow := map_now_eq (μ := μ5) (n := n) (E := E) (ts := (W.set i a b o' c).ts) (y := .loc pn) (items_loc m5.now) H'.ends tl'
  have hll := law_lengths_eq (μ := μ5) (x := .tup ((sortE (pres (W.set i a b o' c).ts)).map edgeD)) (n := n) (E := sortE (pres (W.set i a b o' c).ts)) rfl (wf_sub wf' fun e he => (sortE_perm _).mem_iff.mp he) (by omega) (by rw [(sortE_perm _).length_eq]; exact Nat.le_trans (pres_len _) tl')
  rw [tab_sort wf'] at hll
  -- the states
  have eL : eCons (eFn G__law_lengths [] 2 (eCons (e2 gIx (eV 1) (eC (.int 0))) (eCons (e2 gIx (eFn G__law_map_now [] 2 (eCons (eV 1) (eCons (eV 10) eNil))) (eC (.int 1))) eNil))) eNil (Sl bx (roadsD n E) mny u bn ps k none none p pn ph (some (oD o0)) (some (.int s)) (some (oD o')) r15 none (some (.int i)) (some (.int w))) μ5 = some [tbD n (W.set i a b o' c).ts] := by
    have a1 : e2 gIx (eV 1) (eC (.int 0)) (Sl bx (roadsD n E) mny u bn ps k none none p pn ph (some (oD o0)) (some (.int s)) (some (oD o')) r15 none (some (.int i)) (some (.int w))) μ5 = some (.int n) := e2_i (x := roadsD n E) rfl (y := .int 0) rfl (ix_tup (j := 0) rfl)
    have a2 : eFn G__law_map_now [] 2 (eCons (eV 1) (eCons (eV 10) eNil)) (Sl bx (roadsD n E) mny u bn ps k none none p pn ph (some (oD o0)) (some (.int s)) (some (oD o')) r15 none (some (.int i)) (some (.int w))) μ5 = some (roadsD n (sortE (pres (W.set i a b o' c).ts))) := eFn_i (c_cons (d := roadsD n E) rfl (c_cons (d := .loc pn) rfl c_nil)) rfl hmnow
    have a3 : e2 gIx (eFn G__law_map_now [] 2 (eCons (eV 1) (eCons (eV 10) eNil))) (eC (.int 1)) (Sl bx (roadsD n E) mny u bn ps k none none p pn ph (some (oD o0)) (some (.int s)) (some (oD o')) r15 none (some (.int i)) (some (.int w))) μ5 = some (.tup ((sortE (pres (W.set i a b o' c).ts)).map edgeD)) := e2_i a2 (y := .int 1) rfl (ix_tup (j := 1) rfl)
    exact c_cons (eFn_i (c_cons a1 (c_cons a3 c_nil)) rfl hll) c_nil
  refine ⟨.loc ps, rfl, ⟨_, itemsL_loc m5.sts⟩, [tbD n (W.set i a b o' c).ts], eL, lstAt_i m5.sts ⟨by rw [stL_len]; omega, sSeq_i ?_⟩⟩
  have est : stL n E chs ++ [tbD n (W.set i a b o' c).ts] = stL n E (chs ++ [(i, o')]) := by rw [stL_snoc, hts']
  rw [est]
  have m6 := m5.setSts F (ss' := stL n E (chs ++ [(i, o')]))
  have wt6 := g'.wat m6.wp m6.wq F.xpq
  refine ⟨.loc p, rfl, ⟨_, m6.wp, rfl⟩, rfl, tbD (W.set i a b o' c).n (W.set i a b o' c).ts, watch_lengths_eq wt6, sSeq_i ?_⟩
  rw [hn']
  have hl1 : (stL n E (chs ++ [(i, o')])).length = chs.length + 1 + 1 := by rw [stL_len, List.length_append, List.length_singleton]
  have sl1 : (stL n E (chs ++ [(i, o')]))[chs.length + 1]? = some (tbD n (W.set i a b o' c).ts) := by
    have := stL_last n E (chs ++ [(i, o')])
    rw [List.length_append, List.length_singleton, ← hts'] at this
    exact this
  have sl0 : (stL n E (chs ++ [(i, o')]))[chs.length]? = some (tbD n W.ts) := by
    rw [stL_snoc, List.getElem?_append_left (by rw [stL_len]; omega), stL_last, hts0]
  have nneg : ∀ (x : Int) (ρ : Ro) (μ : Mu), e1 gNeg (eC (.int x)) ρ μ = some (.int (-x)) := fun x ρ μ => rfl
  have sm' : ∀ t ∈ (W.set i a b o' c).ts, ∀ x, t.2.2 = some x → x ≤ Lb (chs ++ [(i, o')]).length u := fun t ht x hx => by
    rw [List.length_append, List.length_singleton, Lb_succ]
    rcases List.mem_or_eq_of_mem_set ht with h1 | h1
    · have := L.sm t h1 x hx
      omega
    · subst h1
      exact (hol x hx).2
  have hL' : Lb (chs ++ [(i, o')]).length u ≤ 10 ^ 50 := Lb_hi hu hu2 (by rw [List.length_append, List.length_singleton]; omega)
  have hsm50 : ∀ e ∈ pres (W.set i a b o' c).ts, e.2.2 ≤ 10 ^ 50 := pres_le fun t ht x hx => Int.le_trans (sm' t ht x hx) hL'
  have gd' : GoodT n (W.set i a b o' c).ts := ⟨g'.tl, hn' ▸ g'.tw, hsm50⟩
  have hrep : ∀ μ', gRepr μ' [tbD n (W.set i a b o' c).ts] = some (.str (reprS n (W.set i a b o' c).ts)) := fun μ' => repr_tb hmn g'.tl (hn' ▸ g'.tw) hsm50
  -- held
  have eh : eCons (eN DL.gLst (eCons (eV 15) (eCons (eN gRepr (eCons (e2 gIx (eV 5) (e1 gNeg (eC (.int 1)))) eNil)) eNil))) eNil (Sl bx (roadsD n E) mny u bn ps k none none p pn ph (some (oD o0)) (some (.int s)) (some (oD o')) (some (tbD n (W.set i a b o' c).ts)) none (some (.int i)) (some (.int w))) (updM μ5 ps (.lst (stL n E (chs ++ [(i, o')])))) = some [.lst [tbD n (W.set i a b o' c).ts, .str (reprS n (W.set i a b o' c).ts)]] := by
    have a1 : e2 gIx (eV 5) (e1 gNeg (eC (.int 1))) (Sl bx (roadsD n E) mny u bn ps k none none p pn ph (some (oD o0)) (some (.int s)) (some (oD o')) (some (tbD n (W.set i a b o' c).ts)) none (some (.int i)) (some (.int w))) (updM μ5 ps (.lst (stL n E (chs ++ [(i, o')])))) = some (tbD n (W.set i a b o' c).ts) := e2_i (x := .loc ps) rfl (nneg 1 _ _) (neg1 m6.sts hl1 sl1)
    exact c_cons (eN_i (c_cons (d := tbD n (W.set i a b o' c).ts) rfl (c_cons (eN_i (c_cons a1 c_nil) (hrep _)) c_nil)) rfl) c_nil
  refine ⟨.loc ph, rfl, ⟨_, itemsL_loc m6.hld⟩, [.lst [tbD n (W.set i a b o' c).ts, .str (reprS n (W.set i a b o' c).ts)]], eh, lstAt_i m6.hld ⟨by rw [L.hl]; omega, sSeq_i ?_⟩⟩
  have m7 := m6.setHld F (hs' := hs ++ [.lst [tbD n (W.set i a b o' c).ts, .str (reprS n (W.set i a b o' c).ts)]])
  have L' : Ls n E u (chs ++ [(i, o')]) (W.set i a b o' c) (hs ++ [.lst [tbD n (W.set i a b o' c).ts, .str (reprS n (W.set i a b o' c).ts)]]) := by
    refine ⟨H', g', sm', fun cc hc => ?_, by rw [List.length_append, List.length_append, L.hl]; rfl, fun h hh => ?_⟩
    · rcases List.mem_append.mp hc with hc | hc
      · exact L.ck cc hc
      · rw [List.mem_singleton] at hc
        subst hc
        exact ⟨by show i < E.length; omega, hol2⟩
    · rcases List.mem_append.mp hh with hh | hh
      · exact L.hs h hh
      · rw [List.mem_singleton] at hh
        exact ⟨_, hh, gd'⟩
  generalize hμ7 : updM (updM μ5 ps (.lst (stL n E (chs ++ [(i, o')])))) ph (.lst (hs ++ [.lst [tbD n (W.set i a b o' c).ts, .str (reprS n (W.set i a b o' c).ts)]])) = μ7 at m7 ⊢
  have wt7 := g'.wat m7.wp m7.wq F.xpq
  have s1 : e2 gIx (eV 5) (e1 gNeg (eC (.int 1))) (Sl bx (roadsD n E) mny u bn ps k none none p pn ph (some (oD o0)) (some (.int s)) (some (oD o')) (some (tbD n (W.set i a b o' c).ts)) none (some (.int i)) (some (.int w))) μ7 = some (tbD n (W.set i a b o' c).ts) := e2_i (x := .loc ps) rfl (nneg 1 _ _) (neg1 m7.sts hl1 sl1)
  have s2 : e2 gIx (eV 5) (e1 gNeg (eC (.int 2))) (Sl bx (roadsD n E) mny u bn ps k none none p pn ph (some (oD o0)) (some (.int s)) (some (oD o')) (some (tbD n (W.set i a b o' c).ts)) none (some (.int i)) (some (.int w))) μ7 = some (tbD n W.ts) := e2_i (x := .loc ps) rfl (nneg 2 _ _) (neg2 m7.sts hl1 sl0)
  have bdd : G__law_bounded μ7 [tbD n W.ts, tbD n (W.set i a b o' c).ts, oD o0, oD o'] = some (.bl true) := bounded_ts hi (hWn ▸ L.g.tw) (by omega) hol2
  have smm : G__law_same μ7 [tbD n (W.set i a b o' c).ts, tbD n (W.set i a b o' c).ts] = some (.bl true) := same_ok (pl_tb (by omega)) (by decide)
  refine sIf_f (or_f (not_i (c := true) (tst_i (eFn_i (c_cons (d := tbD n (W.set i a b o' c).ts) rfl (c_cons s1 c_nil)) rfl smm))) (not_i (c := true) (tst_i (eFn_i (c_cons s2 (c_cons (d := tbD n (W.set i a b o' c).ts) rfl (c_cons (d := oD o0) rfl (c_cons (d := oD o') rfl c_nil)))) rfl bdd)))) ?_
  -- as anew, enough
  have hfin : ∀ (μ8 : Mu) (l8 : List D), Mm C μ0 bx p q pn ps ph μ8 l8 (W.set i a b o' c) (nowL (W.set i a b o' c).ts) (stL n E (chs ++ [(i, o')])) (hs ++ [.lst [tbD n (W.set i a b o' c).ts, .str (reprS n (W.set i a b o' c).ts)]]) → BoxL (T + 4) l8 → N (Sl bx (roadsD n E) mny u bn ps k none none p pn ph (some (oD o0)) (some (.int s)) (some (oD o')) (some (tbD n (W.set i a b o' c).ts)) none (some (.int i)) (some (.int w))) μ8 := fun μ8 l8 m8 B8 => hN _ _ _ _ _ _ _ _ _ _ _ _ rfl m8 B8 L'
  have t6 := tst_i (e2_i (f := gEq false) (e2_i (f := gMod) (u := eV 6) (v := eC (.int 6)) (ρ := Sl bx (roadsD n E) mny u bn ps k none none p pn ph (some (oD o0)) (some (.int s)) (some (oD o')) (some (tbD n (W.set i a b o' c).ts)) none (some (.int i)) (some (.int w))) (μ := μ7) (x := .int k) rfl (y := .int 6) rfl (mod_ok (by decide))) (v := eC (.int 0)) (y := .int 0) rfl eq_int)
  refine ⟨_, t6, ?_⟩
  by_cases h6 : (decide ((k : Int).fmod 6 = 0) != false) = true
  · rw [h6]
    refine if_yes ?_
    refine ⟨[.loc p, roadsD n E, .loc pn, tbD n (W.set i a b o' c).ts], c_cons (d := .loc p) rfl (c_cons (d := roadsD n E) rfl (c_cons (d := .loc pn) rfl (c_cons s1 c_nil))), rfl, p, q, W.set i a b o' c, E, .loc pn, by rw [hn']; rfl, wt7, items_loc m7.now, H'.ends, if_no ?_⟩
    refine ⟨[.loc bx, .loc p, roadsD n E, .loc pn], rfl, rfl, bx, l3, T + 3, p, q, W.set i a b o' c, E, pn, by rw [hn']; rfl, m7.box, B3, by omega, wt7, m7.now, H'.ends, ?_, ?_, hsm50, F.xbp, F.xbq, F.xbn, fun l8 B8 => if_no (GhS.done (hfin _ l8 (m7.setBox F) B8))⟩
    · show 1 ≤ (W.ts.set i (a, b, o')).length
      rw [List.length_set]
      omega
    · show (W.dn ++ [_]).length < 900
      rw [List.length_append, List.length_singleton]
      omega
  · have h6' : (decide ((k : Int).fmod 6 = 0) != false) = false := by simpa using h6
    rw [h6']
    exact if_no (if_no (GhS.done (hfin _ l3 m7 (B3.mono (by omega)))))
end K60
end

section
set_option maxRecDepth 100000
/-! S29: a life begins; its first loop. -/
namespace K60
open PySem PySem.Spec PyProof.Rows L2 DL Wl
theorem make_i {C : Addr} {ρ : Ro} {μ : Mu} {k : DK} {bn : Bool} {n : Nat} {E : List Edge} (h4 : slot ρ 4 = some (.bl bn)) (h1 : slot ρ 1 = some (roadsD n E)) (hM : Mt n E) (hk : ∀ p q, μ p = none → μ q = none → p ≠ q → k (.loc p) (putW C μ p q (newW n E))) :
    dIf (dPT (eTst (eV 4))) (dMakeK C (S_init C) 1 2 (dCons (dP (eV 1)) dNil)) (dMake C (S_init C) 2 (dPA (eCons (eV 1) eNil))) ρ μ k := by
  have fin : ∀ p, μ p = none → S_init C [.loc p, roadsD n E] (updM μ p (.ins C [])) (fun r μ2 => r = .non ∧ k (.loc p) μ2) := fun p hp => by
    refine ⟨p, n, E, rfl, updM_same, hM, fun q hq => ⟨rfl, ?_⟩⟩
    have hpq : p ≠ q := fun z => by
      subst z
      rw [updM_same] at hq
      cases hq
    have hq0 : μ q = none := by
      rw [updM_ne hpq.symm] at hq
      exact hq
    have ep : putW C (updM μ p (.ins C [])) p q (newW n E) = putW C μ p q (newW n E) := by
      unfold putW
      rw [updM_twice]
    rw [ep]
    exact hk p q hp hq0 hpq
  refine ⟨bn, tst_i h4, ?_⟩
  cases bn with
  | true => exact if_yes ⟨roadsD n E, h1, rfl, fun p hp => ⟨rfl, fin p hp⟩⟩
  | false => exact if_no ⟨[roadsD n E], c_cons h1 c_nil, fun p hp => ⟨rfl, fin p hp⟩⟩
theorem nowL_tyE (E : List Edge) : nowL (tyE E) = E.map fun e => D.int e.2.2 := by
  unfold nowL tyE
  rw [List.map_map]
  rfl
/-- the first three statements -/
theorem start_ok {C : Addr} {μ : Mu} {bx : Addr} {l : List D} {n : Nat} {E : List Edge} {mny u : Int} {bn : Bool} {E' : DEnds} (hM : Mt n E) (hb : μ bx = some (.lst l)) (hu : 1 ≤ u) (h9 : ∀ e ∈ E, e.2.2 ≤ 9 * u)
    (fin : ∀ (p q pn ps ph : Addr) (μ' : Mu), Fx μ bx p q pn ps ph → Mm C μ bx p q pn ps ph μ' l (newW n E) (nowL (newW n E).ts) (stL n E []) [] → Ls n E u [] (newW n E) [] →
      E'.nx (setS (Sl bx (roadsD n E) mny u bn ps 0 none none p pn ph none none none none none none none) 6 none) μ') :
    sSeq (life0 C) (sSeq (life1 C) (life2 C)) E' (startD N__law_life_right [.loc bx, roadsD n E, .int mny, .int u, .bl bn]) μ := by
  have hm := hM.map.m
  have hn := hM.map.n2
  unfold life0 life1 life2
  refine sSeq_i (make_i (n := n) (E := E) (bn := bn) rfl rfl hM fun p q hp hq hpq => ?_)
  refine ⟨.tup (E.map edgeD), e2_i (x := roadsD n E) rfl (y := .int 1) rfl (ix_tup (j := 1) rfl), E.map edgeD, rfl, ?_⟩
  have hlc := @lcL_map Edge (dgName 17) (e2 gIx (eV 17) (eC (.int 2))) (unsetAll (startD N__law_life_right [.loc bx, roadsD n E, .int mny, .int u, .bl bn]) [17]) (putW C μ p q (newW n E))
  refine hlc edgeD (fun e => setS (unsetAll (startD N__law_life_right [.loc bx, roadsD n E, .int mny, .int u, .bl bn]) [17]) 17 (some (edgeD e))) (fun e => .int e.2.2) E [] (fun e _ => ⟨fun K hK => hK, e2_i (x := edgeD e) rfl (y := .int 2) rfl (ix_tup (j := 2) rfl)⟩) (by simp only [List.length_nil]; omega) ?_
  intro pn hpn
  rw [List.nil_append, ← nowL_tyE]
  refine ⟨[], rfl, Nat.zero_le _, fun ph hph => ⟨[], rfl, ?_⟩⟩
  have hll := law_lengths_eq (μ := updM (updM (putW C μ p q (newW n E)) pn (.lst (nowL (tyE E)))) ph (.lst [])) (x := .tup (E.map edgeD)) (n := n) (E := E) rfl hM.map.wf (by omega) (by omega)
  refine sSeq_i ⟨[tabT (tab n E)], ?_, by show (1 : Nat) ≤ 100000; omega, fun ps hps => ?_⟩
  · have a1 : e2 gIx (eV 1) (eC (.int 0)) (setS (setS (setS (startD N__law_life_right [.loc bx, roadsD n E, .int mny, .int u, .bl bn]) 9 (some (.loc p))) 10 (some (.loc pn))) 11 (some (.loc ph))) (updM (updM (putW C μ p q (newW n E)) pn (.lst (nowL (tyE E)))) ph (.lst [])) = some (.int n) := e2_i (x := roadsD n E) rfl (y := .int 0) rfl (ix_tup (j := 0) rfl)
    have a2 : e2 gIx (eV 1) (eC (.int 1)) (setS (setS (setS (startD N__law_life_right [.loc bx, roadsD n E, .int mny, .int u, .bl bn]) 9 (some (.loc p))) 10 (some (.loc pn))) 11 (some (.loc ph))) (updM (updM (putW C μ p q (newW n E)) pn (.lst (nowL (tyE E)))) ph (.lst [])) = some (.tup (E.map edgeD)) := e2_i (x := roadsD n E) rfl (y := .int 1) rfl (ix_tup (j := 1) rfl)
    exact c_cons (eFn_i (c_cons a1 (c_cons a2 c_nil)) rfl hll) c_nil
  -- where all lies
  have e0 : Ext μ (putW C μ p q (newW n E)) := ext_put (Ext.refl _) hp hq
  have w0 := wat_new (C := C) (μ := μ) hM hpq
  have n0 : μ pn = none := Ext.none e0 hpn
  have e1' : Ext (putW C μ p q (newW n E)) (updM (putW C μ p q (newW n E)) pn (.lst (nowL (tyE E)))) := Ext.new (Ext.refl _) hpn
  have h0 : μ ph = none := Ext.none (e0.trans e1') hph
  have e2' := Ext.new (m := .lst []) (Ext.refl (updM (putW C μ p q (newW n E)) pn (.lst (nowL (tyE E))))) hph
  have s0 : μ ps = none := Ext.none (e0.trans (e1'.trans e2')) hps
  have e3' := Ext.new (m := .lst [tabT (tab n E)]) (Ext.refl (updM (updM (putW C μ p q (newW n E)) pn (.lst (nowL (tyE E)))) ph (.lst []))) hps
  have F : Fx μ bx p q pn ps ph := by
    refine ⟨ne_of_mu hb hp, ne_of_mu hb hq, ne_of_mu hb n0, ne_of_mu hb s0, ne_of_mu hb h0, hpq, ne_of_mu w0.mp hpn, ?_, ?_, ne_of_mu w0.mq hpn, ?_, ?_, ?_, ?_, ?_, hp, hq, n0, s0, h0⟩
    · exact ne_of_mu ((e1'.trans e2') _ _ w0.mp) hps
    · exact ne_of_mu (e1' _ _ w0.mp) hph
    · exact ne_of_mu ((e1'.trans e2') _ _ w0.mq) hps
    · exact ne_of_mu (e1' _ _ w0.mq) hph
    · exact ne_of_mu (e2' _ _ updM_same) hps
    · exact ne_of_mu updM_same hph
    · exact (ne_of_mu updM_same hps).symm
  have hst : stL n E [] = [tabT (tab n E)] := by
    show [tbD n (tsAt (tyE E) [])] = _
    show [tbD n (tyE E)] = _
    unfold tbD
    rw [pres_tyE]
  have M : Mm C μ bx p q pn ps ph (updM (updM (updM (putW C μ p q (newW n E)) pn (.lst (nowL (tyE E)))) ph (.lst [])) ps (.lst [tabT (tab n E)])) l (newW n E) (nowL (newW n E).ts) (stL n E []) [] := by
    have eA := e0.trans (e1'.trans (e2'.trans e3'))
    have eB := e1'.trans (e2'.trans e3')
    refine ⟨eA _ _ hb, eB _ _ w0.mp, eB _ _ w0.mq, (e2'.trans e3') _ _ updM_same, ?_, e3' _ _ updM_same, fun a m _ hm => eA _ _ hm⟩
    rw [updM_same, hst]
  have L : Ls n E u [] (newW n E) [] := by
    refine ⟨.nil, w0.wg, fun t ht x hx => ?_, fun c hc => (by cases hc), rfl, fun h hh => (by cases hh)⟩
    have h11 := Lb_lo (k := 0) hu
    obtain ⟨e, he, rfl⟩ := List.mem_map.mp (show t ∈ E.map (fun e => (e.1, e.2.1, some e.2.2)) from ht)
    cases hx
    have := h9 e he
    show e.2.2 ≤ Lb 0 u
    omega
  generalize hμ : updM (updM (updM (putW C μ p q (newW n E)) pn (.lst (nowL (tyE E)))) ph (.lst [])) ps (.lst [tabT (tab n E)]) = μ' at M ⊢
  have wt := w0.wg.wat M.wp M.wq F.xpq
  have etb : tbD n (tyE E) = tabT (tab n E) := by
    unfold tbD
    rw [pres_tyE]
  have hs0 : gIx μ' (.loc ps) (.int 0) = some (tabT (tab n E)) := ix_loc (j := 0) M.sts (by rw [hst]; rfl)
  refine ⟨[.loc p, roadsD n E, .loc pn, tabT (tab n E)], ?_, rfl, p, q, newW n E, E, .loc pn, ?_, wt, items_loc M.now, L.H.ends, if_no (fin p q pn ps ph μ' F M L)⟩
  · exact c_cons (d := .loc p) rfl (c_cons (d := roadsD n E) rfl (c_cons (d := .loc pn) rfl (c_cons (e2_i (x := .loc ps) rfl (y := .int 0) rfl hs0) c_nil)))
  · rw [← etb]
    rfl
/-- the first loop -/
theorem loop1_ok {C : Addr} {μ0 μ : Mu} {bx p q pn ps ph : Addr} {l : List D} {n : Nat} {E : List Edge} {u : Int} {T mny : Nat} {bn : Bool} {E' : DEnds} (F : Fx μ0 bx p q pn ps ph) (hM : Mt n E) (hE1 : 1 ≤ E.length) (hu : 1 ≤ u) (hu2 : u ≤ 4 * 10 ^ 38) (hmny : mny ≤ 40)
    (m : Mm C μ0 bx p q pn ps ph μ l (newW n E) (nowL (newW n E).ts) (stL n E []) []) (B : BoxL T l) (hT : T + 4400 ≤ 1000000000) (L : Ls n E u [] (newW n E) [])
    (fin : ∀ (μ' : Mu) (l' : List D) (chs : List (Nat × Option Int)) (W : WS) (hs : List D) (r6 : Option D) (q12 q13 q14 q15 q17 q18 : Option D), Mm C μ0 bx p q pn ps ph μ' l' W (nowL W.ts) (stL n E chs) hs → BoxL (T + 4 * mny) l' → Ls n E u chs W hs → chs.length = mny → E'.nx (setS (Sl bx (roadsD n E) mny u bn ps 0 none none p pn ph q12 q13 q14 q15 none q17 q18) 6 r6) μ') :
    life3 C E' (setS (Sl bx (roadsD n E) mny u bn ps 0 none none p pn ph none none none none none none none) 6 none) μ := by
  rw [life3_eq]
  refine ⟨[.int mny], rfl, ⟨by omega, by omega⟩, ?_⟩
  rw [Int.toNat_natCast]
  refine forL_ix (fun i ρ μ' => ∃ (l' : List D) (chs : List (Nat × Option Int)) (W : WS) (hs : List D) (r6 q12 q13 q14 q15 q17 q18 : Option D), ρ = setS (Sl bx (roadsD n E) mny u bn ps 0 none none p pn ph q12 q13 q14 q15 none q17 q18) 6 r6 ∧ Mm C μ0 bx p q pn ps ph μ' l' W (nowL W.ts) (stL n E chs) hs ∧ BoxL (T + 4 * i) l' ∧ Ls n E u chs W hs ∧ chs.length = i)
    (fun _ _ _ _ => trivial) (fun i y ρ μ' N hy hQ hN => ?_) (fun ρ μ' hQ => ?_) ⟨l, [], newW n E, [], none, none, none, none, none, none, none, rfl, m, B, L, rfl⟩
  · obtain ⟨l', chs, W, hs, r6, q12, q13, q14, q15, q17, q18, rfl, hm, hB, hL, hl⟩ := hQ
    obtain ⟨rfl, hin⟩ := rg_get hy
    refine turn_ok (mny := mny) (k := i) (bn := bn) F hM hE1 hu hu2 hm hB (by omega) hL (by omega) fun ρ' μ2 l2 c W2 hs2 s12 s13 s14 s15 s17 s18 hρ hm2 hB2 hL2 => ?_
    subst hρ
    exact hN _ _ ⟨l2, chs ++ [c], W2, hs2, some (.int i), s12, s13, s14, s15, s17, s18, rfl, hm2, hB2.mono (by omega), hL2, by rw [List.length_append, List.length_singleton, hl]⟩
  · obtain ⟨l', chs, W, hs, r6, q12, q13, q14, q15, q17, q18, rfl, hm, hB, hL, hl⟩ := hQ
    rw [rg_len] at hB hl
    exact fin _ l' chs W hs r6 q12 q13 q14 q15 q17 q18 hm hB hL hl
end K60
end

section
set_option maxRecDepth 100000
/-! S30: the changes in other orders; the watch is read. -/
namespace K60
open PySem PySem.Spec PyProof.Rows L2 DL Wl
theorem take_mem {ys : List D} {j : Nat} {y x : D} (hy : ys[j]? = some y) (h : x ∈ ys.take (j + 1)) : x ∈ ys.take j ∨ x = y := by
  obtain ⟨hj, he⟩ := List.getElem?_eq_some_iff.mp hy
  rw [List.take_succ_eq_append_getElem hj, List.mem_append, List.mem_singleton, he] at h
  exact h
theorem loop2_ok {C : Addr} {μ0 μ : Mu} {bx p q pn ps ph : Addr} {l : List D} {n : Nat} {E : List Edge} {u : Int} {T mny : Nat} {bn : Bool} {E' : DEnds} {chs : List (Nat × Option Int)} {W : WS} {hs : List D} {r6 q12 q13 q14 q15 q17 q18 : Option D} (F : Fx μ0 bx p q pn ps ph) (hM : Mt n E)
    (m : Mm C μ0 bx p q pn ps ph μ l W (nowL W.ts) (stL n E chs) hs) (B : BoxL T l) (hT : T + 2000 ≤ 1000000000) (L : Ls n E u chs W hs) (hcl : chs.length ≤ 40)
    (fin : ∀ (μ' : Mu) (l' : List D) (r7 r16 r17 : Option D), Mm C μ0 bx p q pn ps ph μ' l' W (nowL W.ts) (stL n E chs) hs → BoxL (T + 400) l' → E'.nx (setS (setS (Sl bx (roadsD n E) mny u bn ps 0 none none p pn ph q12 q13 q14 q15 r16 r17 q18) 6 r6) 7 r7) μ') :
    life4 C E' (setS (Sl bx (roadsD n E) mny u bn ps 0 none none p pn ph q12 q13 q14 q15 none q17 q18) 6 r6) μ := by
  have hWn : W.n = n := L.H.n
  have hWl : W.ts.length = E.length := by rw [L.H.len, newW_len]
  have hml := hM.map.m
  have hmn := hM.map.n2
  unfold life4
  refine ⟨[.int 2], rfl, ⟨by decide, by decide⟩, ?_⟩
  refine forL_ix (fun i ρ μ' => ∃ (l' : List D) (r7 r16 r17 : Option D), ρ = setS (setS (Sl bx (roadsD n E) mny u bn ps 0 none none p pn ph q12 q13 q14 q15 r16 r17 q18) 6 r6) 7 r7 ∧ Mm C μ0 bx p q pn ps ph μ' l' W (nowL W.ts) (stL n E chs) hs ∧ BoxL (T + 200 * i) l')
    (fun _ _ _ _ => trivial) (fun i y ρ μ' N hy hQ hN => ?_) (fun ρ μ' hQ => ?_) ⟨l, none, none, q17, rfl, m, B⟩
  · obtain ⟨l', r7, r16, r17, rfl, hm, hB⟩ := hQ
    obtain ⟨rfl, hin⟩ := rg_get hy
    have hi2 : i < 2 := hin
    refine sGh_i (sSeq_i ⟨[roadsD n E], rfl, fun p' hp' => ⟨rfl, p', n, E, rfl, updM_same, hM, fun q' hq' => ⟨rfl, sSeq_i ?_⟩⟩⟩)
    have hpq : p' ≠ q' := fun z => by
      subst z
      rw [updM_same] at hq'
      cases hq'
    have hq0 : μ' q' = none := by
      rw [updM_ne hpq.symm] at hq'
      exact hq'
    have ep : putW C (updM μ' p' (.ins C [])) p' q' (newW n E) = putW C μ' p' q' (newW n E) := by
      unfold putW
      rw [updM_twice]
    rw [ep]
    have hma := hm.of_ext (ext_put (C := C) (W := newW n E) (Ext.refl _) hp' hq0)
    have hwa := wat_new (C := C) (μ := μ') hM hpq
    have bp' : bx ≠ p' := ne_of_mu hm.box hp'
    have bq' : bx ≠ q' := ne_of_mu hm.box hq0
    generalize hμa : putW C μ' p' q' (newW n E) = μa at hma hwa ⊢
    have ela : e1 (fun μ x => gRg μ [x]) (eN gLen (eCons (eV 10) eNil)) (setS (setS (setS (Sl bx (roadsD n E) mny u bn ps 0 none none p pn ph q12 q13 q14 q15 r16 r17 q18) 6 r6) 7 (some (.int i))) 16 (some (.loc p'))) μa = some (.lst (rgD 0 W.ts.length)) := by
      refine e1_i (x := .int (W.ts.length : Nat)) (eN_i (c_cons (d := .loc pn) rfl c_nil) ?_) ?_
      · rw [len_items (items_loc hma.now), nowL_len]
      · show (if ((W.ts.length : Nat) : Int) ≤ 100000 ∧ -100000 ≤ ((W.ts.length : Nat) : Int) then some (D.lst (rgD 0 ((W.ts.length : Nat) : Int).toNat)) else none) = _
        rw [if_pos ⟨by omega, by omega⟩, Int.toNat_natCast]
    refine ⟨[.loc bx, .lst (rgD 0 W.ts.length)], c_cons (d := .loc bx) rfl (c_cons ela c_nil), rfl, bx, l', T + 200 * i, rgD 0 W.ts.length, rfl, hma.box, hB, by omega, by rw [rg_len]; omega, fun ys l2 hys hB2 => ⟨ys, rfl, ?_⟩⟩
    rw [rg_len] at hB2
    have yl : ys.length = W.ts.length := by rw [hys.length_eq, rg_len]
    have hmb := hma.setBox F (l' := l2)
    have hwb : Wat C (updM μa bx (.lst l2)) p' q' (newW n E) := ⟨by rw [updM_ne bp'.symm]; exact hwa.mp, by rw [updM_ne bq'.symm]; exact hwa.mq, hwa.pq, hwa.n1, hwa.n2, hwa.tl, hwa.tw, hwa.hl, hwa.dl⟩
    have hexb : Ext (updM μ' bx (.lst l2)) (updM μa bx (.lst l2)) := fun a mm ha => by
      by_cases hab : a = bx
      · subst hab
        rw [updM_same] at ha ⊢
        exact ha
      · rw [updM_ne hab] at ha ⊢
        rw [← hμa]
        exact ext_put (Ext.refl _) hp' hq0 a mm ha
    have hp2 : (updM μ' bx (.lst l2)) p' = none := by rw [updM_ne bp'.symm]; exact hp'
    have hq2 : (updM μ' bx (.lst l2)) q' = none := by rw [updM_ne bq'.symm]; exact hq0
    have hmc := hm.setBox F (l' := l2)
    refine forL_ix (fun j ρ μ2 => ∃ (W2 : WS) (chs2 : List (Nat × Option Int)) (s17 : Option D), ρ = setS (setS (setS (Sl bx (roadsD n E) mny u bn ps 0 none none p pn ph q12 q13 q14 q15 r16 s17 q18) 6 r6) 7 (some (.int i))) 16 (some (.loc p')) ∧ Ext (updM μ' bx (.lst l2)) μ2 ∧ Wat C μ2 p' q' W2 ∧ Hist (newW n E) chs2 W2 ∧ chs2.length = j ∧
        ∀ (jj : Nat) (t : Ty), W.ts[jj]? = some t → ∃ o, W2.ts[jj]? = some (t.1, t.2.1, o) ∧ (D.int (jj : Nat) ∈ ys.take j → o = t.2.2))
      (fun _ _ _ _ => trivial) (fun j z ρ μ2 N2 hz hQ2 hN2 => ?_) (fun ρ μ2 hQ2 => ?_) ⟨newW n E, [], r17, rfl, hexb, hwb, .nil, rfl, fun jj t ht => ?_⟩
    · obtain ⟨W2, chs2, s17, rfl, he2, hw2, hH2, hc2, hall⟩ := hQ2
      have hjl : j < ys.length := (List.getElem?_eq_some_iff.mp hz).1
      obtain ⟨jj, rfl, hjj⟩ := mem_rg (hys.mem_iff.mp (List.mem_of_getElem? hz))
      have ht : W.ts[jj]? = some W.ts[jj] := List.getElem?_eq_getElem hjj
      generalize W.ts[jj] = t at ht
      obtain ⟨o, ho, _⟩ := hall jj t ht
      have htw := L.g.tw t (List.mem_of_getElem? ht)
      have m2 := hmc.of_ext he2
      have enow : e2 gIx (eV 10) (eV 17) (setS (setS (setS (setS (Sl bx (roadsD n E) mny u bn ps 0 none none p pn ph q12 q13 q14 q15 r16 s17 q18) 6 r6) 7 (some (.int i))) 16 (some (.loc p'))) 17 (some (.int (jj : Nat)))) μ2 = some (oD t.2.2) := by
        refine e2_i (x := .loc pn) rfl (y := .int (jj : Nat)) rfl (ix_loc m2.now ?_)
        unfold nowL
        rw [List.getElem?_map, ht]
        rfl
      have hdn2 : W2.dn.length < 1000 := by
        rw [hH2.dnl]
        show 0 + chs2.length < 1000
        omega
      refine sGh_i ⟨.loc p', rfl, ⟨_, hw2.mp, rfl⟩, [.int (jj : Nat), oD t.2.2], c_cons (d := .int (jj : Nat)) rfl (c_cons enow c_nil), rfl, p', q', W2, jj, t.1, t.2.1, o, t.2.2, rfl, hw2, ho, htw.2.2.2, hdn2, fun c => ⟨.non, rfl, .bl false, is_non, if_no ?_⟩⟩
      refine GhS.done (hN2 _ _ ⟨W2.set jj t.1 t.2.1 t.2.2 c, chs2 ++ [(jj, t.2.2)], some (.int (jj : Nat)), rfl, ext_put he2 hp2 hq2, hw2.setOk ho htw.2.2.2 hdn2, .snoc hH2 ho, by rw [List.length_append, List.length_singleton, hc2], fun kk t2 ht2 => ?_⟩)
      by_cases hkj : kk = jj
      · subst hkj
        rw [ht] at ht2
        cases ht2
        refine ⟨t.2.2, ?_, fun _ => rfl⟩
        show (W2.ts.set kk (t.1, t.2.1, t.2.2))[kk]? = _
        rw [List.getElem?_set_self (List.getElem?_eq_some_iff.mp ho).1]
      · obtain ⟨o2, h1, h2⟩ := hall kk t2 ht2
        refine ⟨o2, ?_, fun hmem => ?_⟩
        · show (W2.ts.set jj (t.1, t.2.1, t.2.2))[kk]? = _
          rw [List.getElem?_set_ne (Ne.symm hkj)]
          exact h1
        · rcases take_mem hz hmem with h3 | h3
          · exact h2 h3
          · injection h3 with h3
            exact absurd (by omega) hkj
    · obtain ⟨W2, chs2, s17, rfl, he2, hw2, hH2, hc2, hall⟩ := hQ2
      have m2 := hmc.of_ext he2
      have hW2l : W2.ts.length = W.ts.length := by rw [hH2.len, newW_len, hWl]
      have hts : W2.ts = W.ts := by
        apply List.ext_getElem?
        intro jj
        by_cases hjj : jj < W.ts.length
        · have ht : W.ts[jj]? = some W.ts[jj] := List.getElem?_eq_getElem hjj
          obtain ⟨o, h1, h2⟩ := hall jj _ ht
          have hmem : D.int (jj : Nat) ∈ ys.take ys.length := by
            rw [List.take_length]
            refine hys.mem_iff.mpr ?_
            unfold rgD
            refine List.mem_map.mpr ⟨jj, List.mem_range.mpr hjj, ?_⟩
            rw [Int.zero_add]
          rw [h1, h2 hmem, ht]
        · rw [List.getElem?_eq_none (by omega), List.getElem?_eq_none (by omega)]
      have hW2n : W2.n = n := hH2.n
      have hst := neg1 m2.sts (stL_len n E chs) (stL_last n E chs)
      have hts0 : W.ts = tsAt (tyE E) chs := L.H.ts
      have es : e2 gIx (eV 5) (e1 gNeg (eC (.int 1))) (setS (setS (setS (Sl bx (roadsD n E) mny u bn ps 0 none none p pn ph q12 q13 q14 q15 r16 s17 q18) 6 r6) 7 (some (.int i))) 16 (some (.loc p'))) μ2 = some (tbD n W.ts) := by
        refine e2_i (x := .loc ps) rfl (y := .int (-1)) rfl ?_
        rw [hts0]
        exact hst
      refine ⟨.loc p', rfl, ⟨_, hw2.mp, rfl⟩, rfl, tbD W2.n W2.ts, watch_lengths_eq hw2, [tbD n W.ts], c_cons es c_nil, rfl, .bl true, ?_, if_no ?_⟩
      · rw [hW2n, hts]
        exact same_ok (pl_tb (by omega)) (by decide)
      · refine GhS.drop (updM μ' bx (.lst l2)) he2 (GhS.done (hN _ _ ⟨l2, some (.int i), some (.loc p'), s17, rfl, hmc, hB2.mono (by omega)⟩))
    · have hends := L.H.ends
      have hjj : jj < E.length := by
        have := (List.getElem?_eq_some_iff.mp ht).1
        omega
      obtain ⟨a, b, o⟩ := t
      obtain ⟨lE, hE⟩ := ends_at hends ht
      refine ⟨some lE, ?_, fun h => by rw [List.take_zero] at h; cases h⟩
      show (tyE E)[jj]? = _
      unfold tyE
      rw [List.getElem?_map, hE]
      rfl
  · obtain ⟨l', r7, r16, r17, rfl, hm, hB⟩ := hQ
    have h2 : (rgD 0 (Int.toNat 2)).length = 2 := rg_len _
    rw [h2] at hB
    exact fin μ' l' r7 r16 r17 hm hB
end K60
end

section
set_option maxRecDepth 100000
/-! S31: the watch is read; all is undone; the end of a life. -/
namespace K60
open PySem PySem.Spec PyProof.Rows L2 DL Wl
theorem Hist.inv {W0 W : WS} {l : List (Nat × Option Int)} (h : Hist W0 l W) : ∀ chs c, l = chs ++ [c] → ∃ W1 a b o0 cc, Hist W0 chs W1 ∧ W1.ts[c.1]? = some (a, b, o0) ∧ W = W1.set c.1 a b c.2 cc := by
  cases h with
  | nil => exact fun chs c e => absurd e (by simp)
  | snoc h1 h2 =>
    intro chs c e
    obtain ⟨e1, e2⟩ := List.append_inj' e rfl
    subst e1
    injection e2 with e2 _
    subst e2
    exact ⟨_, _, _, _, _, h1, h2, rfl⟩
theorem Hist.zero {W0 W : WS} {l : List (Nat × Option Int)} (h : Hist W0 l W) : l = [] → W = W0 := by
  cases h with
  | nil => exact fun _ => rfl
  | snoc h1 h2 => exact fun e => absurd e (by simp)
theorem new_wg {n : Nat} {E : List Edge} (h : Mt n E) : Wg (newW n E) := (wat_new (C := 0) (μ := fun _ => none) (p := 0) (q := 1) h (by decide)).wg
theorem hist_wg {n : Nat} {E : List Edge} (hM : Mt n E) {chs : List (Nat × Option Int)} {W : WS} (h : Hist (newW n E) chs W) : (∀ c ∈ chs, Cc E.length c) → chs.length ≤ 900 → Wg W := by
  induction h with
  | nil => exact fun _ _ => new_wg hM
  | @snoc chs W i a b o0 o c h1 h2 ih =>
    intro hc hl
    rw [List.length_append, List.length_singleton] at hl
    have g := ih (fun x hx => hc x (List.mem_append_left _ hx)) (by omega)
    have hcc := hc (i, o) (List.mem_append_right _ (List.mem_singleton.mpr rfl))
    refine ⟨g.n1, g.n2, by show (List.set _ _ _).length ≤ 120; rw [List.length_set]; exact g.tl, g.tw.set h2 hcc.2, g.hl, ?_⟩
    show (W.dn ++ [_]).length ≤ 1000
    rw [List.length_append, List.length_singleton, h1.dnl]
    show 0 + chs.length + 1 ≤ 1000
    omega
theorem read_ok {C : Addr} {μ0 μ : Mu} {bx p q pn ps ph : Addr} {l ns ss : List D} {n : Nat} {E : List Edge} {u : Int} {chs : List (Nat × Option Int)} {W : WS} {hs : List D} {ρ : Ro} {E' : DEnds} (F : Fx μ0 bx p q pn ps ph) (hM : Mt n E) (m : Mm C μ0 bx p q pn ps ph μ l W ns ss hs) (L : Ls n E u chs W hs) (hcl : chs.length ≤ 40) (h9 : slot ρ 9 = some (.loc p))
    (fin : ∀ p2 q2 μ' W2, Ext μ μ' → μ p2 = none → μ q2 = none → Wat C μ' p2 q2 W2 → Hist (newW n E) chs W2 → E'.nx (setS ρ 8 (some (.loc p2))) μ') : life5 C E' ρ μ := by
  unfold life5
  have wt := L.g.wat m.wp m.wq F.xpq
  refine ⟨.loc p, h9, ⟨_, m.wp, rfl⟩, rfl, p, q, W, rfl, wt, dn_cs L.H L.ck hM.map.m, ?_⟩
  rw [lines_of L.H]
  exact ⟨[], rfl, rfl, n, E, chs, rfl, hM, L.ck, by omega, fun p2 q2 μ' W2 h1 h2 h3 h4 h5 => fin p2 q2 μ' W2 h1 h2 h3 h4 h5⟩
/-- the twin lies apart -/
structure F2 (bx p q pn ps ph p2 q2 : Addr) : Prop where
  ya : p2 ≠ q2
  ypb : p2 ≠ bx
  ypp : p2 ≠ p
  ypq : p2 ≠ q
  ypn : p2 ≠ pn
  yps : p2 ≠ ps
  yph : p2 ≠ ph
  yqb : q2 ≠ bx
  yqp : q2 ≠ p
  yqq : q2 ≠ q
  yqn : q2 ≠ pn
  yqs : q2 ≠ ps
  yqh : q2 ≠ ph
end K60
end

section
set_option maxRecDepth 100000
/-! S32: all changes are taken back. -/
namespace K60
open PySem PySem.Spec PyProof.Rows L2 DL Wl
theorem stL_drop (n : Nat) (E : List Edge) (A : List (Nat × Option Int)) (c : Nat × Option Int) : (stL n E (A ++ [c])).dropLast = stL n E A := by
  rw [stL_snoc, List.dropLast_concat]
def undoD (C : Addr) : DS := sGh (sIf (dOrT (dTst (dOp (p2 (gIs true)) (dMt C "undo" (S_undo C) 1 (dP (eV 13)) dNil) (dP (eC .non)))) (dNotT (dTst (dFn (pN G__law_same) [] 2 (dCons (dMt C "lengths" (pN (G_Watch_lengths C)) 1 (dP (eV 13)) dNil) (dPA (eCons (e2 gIx (eV 5) (e1 gNeg (eC (.int 1)))) eNil))))))) (sRet (dP (eC (.bl false)))) sNext)
theorem life6_eq (C : Addr) : life6 C = sFor (iRg1 (dPA (eCons (eV 2) eNil))) (dgName 6) (sGh (sSeq (sDrop (dBM0 fPop (dP (eV 5)))) (sFor (iSeq (dP (eN DL.gLst (eCons (eV 9) (eCons (eV 8) eNil))))) (dgName 13) (undoD C)))) := rfl
theorem undo_ok {C : Addr} {μ : Mu} {p q ps : Addr} {n : Nat} {E : List Edge} {A : List (Nat × Option Int)} {c : Nat × Option Int} {W : WS} {ρ : Ro} {E' : DEnds} (hM : Mt n E) (h13 : slot ρ 13 = some (.loc p)) (h5 : slot ρ 5 = some (.loc ps)) (hW : Wat C μ p q W) (hH : Hist (newW n E) (A ++ [c]) W)
    (hck : ∀ x ∈ A, Cc E.length x) (hA : A.length ≤ 900) (hs : μ ps = some (.lst (stL n E A))) (n1 : ps ≠ p) (n2 : ps ≠ q) (fin : ∀ W1, Hist (newW n E) A W1 → Wg W1 → E'.nx ρ (putW C μ p q W1)) : undoD C E' ρ μ := by
  obtain ⟨W1, a, b, o0, cc, h1, h2, rfl⟩ := hH.inv A c rfl
  have g1 := hist_wg hM h1 hck hA
  have hn : W1.n = n := h1.n
  have hn2 : n ≤ 20 := hM.map.n2
  unfold undoD
  have hs' : (putW C μ p q W1) ps = some (.lst (stL n E A)) := by
    unfold putW
    rw [updM_ne n2, updM_ne n1]
    exact hs
  have wp : (putW C μ p q W1) p = some (mW C q W1) := by
    unfold putW
    rw [updM_ne hW.pq, updM_same]
  have wq : (putW C μ p q W1) q = some (dW W1) := by
    unfold putW
    rw [updM_same]
  have wt := g1.wat wp wq hW.pq
  refine sGh_i ⟨.loc p, h13, ⟨_, hW.mp, rfl⟩, rfl, p, q, W1.set c.1 a b c.2 cc, ⟨c.1, c.2, cc, W1.ts⟩, W1.dn, rfl, hW, rfl, ?_⟩
  show ∃ d, _
  have eb : (W1.set c.1 a b c.2 cc).back W1.ts W1.dn = W1 := rfl
  rw [eb]
  refine ⟨.non, rfl, .bl false, is_non, if_no ?_⟩
  refine ⟨.loc p, h13, ⟨_, wp, rfl⟩, rfl, tbD W1.n W1.ts, watch_lengths_eq wt, [tbD n W1.ts], ?_, rfl, .bl true, ?_, if_no (GhS.done (fin W1 h1 g1))⟩
  · refine c_cons (e2_i (x := .loc ps) h5 (y := .int (-1)) rfl ?_) c_nil
    rw [h1.ts]
    exact neg1 hs' (stL_len n E A) (stL_last n E A)
  · rw [hn]
    exact same_ok (pl_tb (by omega)) (by decide)
/-- the slots of the end of a life -/
def Sl2 (bx : Addr) (R : D) (mny : Int) (u : Int) (bn : Bool) (ps : Addr) (r6 r7 : Option D) (p2 p pn ph : Addr) (r12 r13 r14 r15 r16 r17 r18 : Option D) : Ro :=
  [some (.loc bx), some R, some (.int mny), some (.int u), some (.bl bn), some (.loc ps), r6, r7, some (.loc p2), some (.loc p), some (.loc pn), some (.loc ph), r12, r13, r14, r15, r16, r17, r18, none]
theorem list_snoc {α : Type} {A : List α} (h : A ≠ []) : ∃ B c, A = B ++ [c] := ⟨A.dropLast, A.getLast h, (List.dropLast_concat_getLast h).symm⟩
/-- the last loop -/
theorem loop3_ok {C : Addr} {μ0 μ : Mu} {bx p q pn ps ph p2 q2 : Addr} {l ns : List D} {n : Nat} {E : List Edge} {u : Int} {mny : Nat} {bn : Bool} {E' : DEnds} {chs : List (Nat × Option Int)} {W V : WS} {hs : List D} {r6 r7 q12 q13 q14 q15 r16 r17 q18 : Option D} (F : Fx μ0 bx p q pn ps ph) (Y : F2 bx p q pn ps ph p2 q2) (hp0 : μ0 p2 = none) (hq0 : μ0 q2 = none) (hM : Mt n E)
    (m : Mm C μ0 bx p q pn ps ph μ l W ns (stL n E chs) hs) (hV : Wat C μ p2 q2 V) (hW1 : Hist (newW n E) chs W) (hV1 : Hist (newW n E) chs V) (gW : Wg W) (ck : ∀ c ∈ chs, Cc E.length c) (hcl : chs.length = mny) (hmny : mny ≤ 40)
    (fin : ∀ (μ' : Mu) (r6 r13 : Option D), Mm C μ0 bx p q pn ps ph μ' l (newW n E) ns (stL n E []) hs → Wat C μ' p2 q2 (newW n E) → E'.nx (Sl2 bx (roadsD n E) mny u bn ps r6 r7 p2 p pn ph q12 r13 q14 q15 r16 r17 q18) μ') :
    life6 C E' (Sl2 bx (roadsD n E) mny u bn ps r6 r7 p2 p pn ph q12 q13 q14 q15 r16 r17 q18) μ := by
  rw [life6_eq]
  refine ⟨[.int mny], rfl, ⟨by omega, by omega⟩, ?_⟩
  rw [Int.toNat_natCast]
  refine forL_ix (fun i ρ μ' => ∃ (A : List (Nat × Option Int)) (W1 V1 : WS) (s6 s13 : Option D), ρ = Sl2 bx (roadsD n E) mny u bn ps s6 r7 p2 p pn ph q12 s13 q14 q15 r16 r17 q18 ∧ Mm C μ0 bx p q pn ps ph μ' l W1 ns (stL n E A) hs ∧ Wat C μ' p2 q2 V1 ∧ Hist (newW n E) A W1 ∧ Hist (newW n E) A V1 ∧ Wg W1 ∧ (∀ c ∈ A, Cc E.length c) ∧ A.length + i = mny)
    (fun _ _ _ _ => trivial) (fun i y ρ μ' N hy hQ hN => ?_) (fun ρ μ' hQ => ?_) ⟨chs, W, V, r6, q13, rfl, m, hV, hW1, hV1, gW, ck, by omega⟩
  · obtain ⟨A', W1, V1, s6, s13, rfl, hm, hv, h1, h2, g1, hck, hAl⟩ := hQ
    obtain ⟨rfl, hin⟩ := rg_get hy
    obtain ⟨A, c, rfl⟩ := list_snoc (A := A') (fun z => by subst z; simp only [List.length_nil] at hAl; omega)
    rw [List.length_append, List.length_singleton] at hAl
    have hckA : ∀ x ∈ A, Cc E.length x := fun x hx => hck x (List.mem_append_left _ hx)
    have hlen := stL_len n E (A ++ [c])
    rw [List.length_append, List.length_singleton] at hlen
    refine sGh_i (sSeq_i ⟨.loc ps, rfl, ⟨_, itemsL_loc hm.sts⟩, lstAt_i hm.sts ⟨rfl, (stL n E (A ++ [c]))[(stL n E (A ++ [c])).length - 1]'(by omega), List.getElem?_eq_getElem _, ?_⟩⟩)
    rw [stL_drop]
    have m1 := hm.setSts F (ss' := stL n E A)
    have hv1 : Wat C (updM μ' ps (.lst (stL n E A))) p2 q2 V1 := ⟨by rw [updM_ne Y.yps]; exact hv.mp, by rw [updM_ne Y.yqs]; exact hv.mq, hv.pq, hv.n1, hv.n2, hv.tl, hv.tw, hv.hl, hv.dl⟩
    generalize hμ1 : updM μ' ps (.lst (stL n E A)) = μ1 at m1 hv1 ⊢
    refine ⟨.lst [.loc p, .loc p2], rfl, [.loc p, .loc p2], rfl, ?_⟩
    refine ⟨trivial, undo_ok (p := p) (q := q) hM rfl rfl (g1.wat m1.wp m1.wq F.xpq) h1 hckA (by omega) m1.sts F.xps.symm F.xqs.symm fun W2 hW2 gW2 => ⟨trivial, ?_⟩⟩
    have m2 := m1.setW F (W' := W2)
    have hv2 : Wat C (putW C μ1 p q W2) p2 q2 V1 := by
      refine ⟨?_, ?_, hv.pq, hv.n1, hv.n2, hv.tl, hv.tw, hv.hl, hv.dl⟩
      · unfold putW
        rw [updM_ne Y.ypq, updM_ne Y.ypp]
        exact hv1.mp
      · unfold putW
        rw [updM_ne Y.yqq, updM_ne Y.yqp]
        exact hv1.mq
    generalize hμ2 : putW C μ1 p q W2 = μ2 at m2 hv2 ⊢
    refine undo_ok (p := p2) (q := q2) hM rfl rfl hv2 h2 hckA (by omega) m2.sts Y.yps.symm Y.yqs.symm fun V2 hV2 gV2 => ⟨trivial, GhS.done (hN _ _ ⟨A, W2, V2, some (.int i), some (.loc p2), rfl, ?_, ?_, hW2, hV2, gW2, hckA, by omega⟩)⟩
    · unfold putW
      refine ⟨?_, ?_, ?_, ?_, ?_, ?_, fun a mm ha hmm => ?_⟩
      · rw [updM_ne Y.yqb.symm, updM_ne Y.ypb.symm]; exact m2.box
      · rw [updM_ne Y.yqp.symm, updM_ne Y.ypp.symm]; exact m2.wp
      · rw [updM_ne Y.yqq.symm, updM_ne Y.ypq.symm]; exact m2.wq
      · rw [updM_ne Y.yqn.symm, updM_ne Y.ypn.symm]; exact m2.now
      · rw [updM_ne Y.yqs.symm, updM_ne Y.yps.symm]; exact m2.sts
      · rw [updM_ne Y.yqh.symm, updM_ne Y.yph.symm]; exact m2.hld
      · rw [updM_ne (ne_of_mu hmm hq0), updM_ne (ne_of_mu hmm hp0)]
        exact m2.ext a mm ha hmm
    · refine gV2.wat ?_ ?_ hv.pq
      · unfold putW
        rw [updM_ne hv.pq, updM_same]
      · unfold putW
        rw [updM_same]
  · obtain ⟨A, W1, V1, s6, s13, rfl, hm, hv, h1, h2, g1, hck, hAl⟩ := hQ
    rw [rg_len] at hAl
    have hA : A = [] := List.eq_nil_of_length_eq_zero (by omega)
    have e1 := h1.zero hA
    have e2 := h2.zero hA
    subst hA e1 e2
    exact fin μ' s6 s13 hm hv
end K60
end

section
set_option maxRecDepth 100000
/-! S33: the end of a life. -/
namespace K60
open PySem PySem.Spec PyProof.Rows L2 DL Wl
theorem list_of {α β : Type} (f : α → β) (P : α → Prop) : ∀ xs : List β, (∀ x ∈ xs, ∃ a, x = f a ∧ P a) → ∃ as : List α, xs = as.map f ∧ ∀ a ∈ as, P a
  | [], _ => ⟨[], rfl, fun a ha => by cases ha⟩
  | x :: r, h => by
    obtain ⟨a, h1, h2⟩ := h x List.mem_cons_self
    obtain ⟨as, h3, h4⟩ := list_of f P r fun y hy => h y (List.mem_cons_of_mem _ hy)
    refine ⟨a :: as, by rw [h1, h3]; rfl, fun y hy => ?_⟩
    rcases List.mem_cons.mp hy with e | e
    · subst e
      exact h2
    · exact h4 y e
theorem str_ne {μ : Mu} (s : Str) : gEq true μ (.str s) (.str s) = some (.bl false) := by
  have : gEq true μ (.str s) (.str s) = some (.bl (decide (s = s) != true)) := rfl
  rw [this, decide_eq_true rfl]
  rfl
theorem filter_none {α : Type} (xs : List α) : xs.filter (fun _ => false) = [] := by
  induction xs with
  | nil => rfl
  | cons a r ih => rw [List.filter_cons_of_neg Bool.false_ne_true, ih]
/-- what was held has stayed -/
theorem held_ok {C : Addr} {ρ : Ro} {μ : Mu} {ph : Addr} {n : Nat} {hs : List D} {E' : DEnds} (hn : n ≤ 20) (h11 : slot ρ 11 = some (.loc ph)) (hlen : ρ.length = 20) (hm : μ ph = some (.lst hs)) (hl : hs.length ≤ 1000) (hh : ∀ h ∈ hs, ∃ ts, h = .lst [tbD n ts, .str (reprS n ts)] ∧ GoodT n ts) (fin : E'.rt (.bl true) μ) : life8 C E' ρ μ := by
  obtain ⟨tss, rfl, hg⟩ := list_of (fun ts => D.lst [tbD n ts, .str (reprS n ts)]) (GoodT n) hs hh
  match ρ, hlen with
  | [a0, a1, a2, a3, a4, a5, a6, a7, a8, a9, a10, a11, a12, a13, a14, a15, a16, a17, a18, a19], _ =>
  have e11 : a11 = some (.loc ph) := h11
  subst e11
  have key : lcGo (egUnl 2 (egCons (egName 15) (egCons (egName 19) egNil))) (eTst (e2 (gEq true) (eN gRepr (eCons (eV 15) eNil)) (eV 19))) (eC (.int 1)) [a0, a1, a2, a3, a4, a5, a6, a7, a8, a9, a10, some (.loc ph), a12, a13, a14, none, a16, a17, a18, none] μ (tss.map fun ts => D.lst [tbD n ts, .str (reprS n ts)]) = some ((tss.filter fun _ => false).map fun _ => D.int 1) := by
    refine lcGo_filter (fun ts => D.lst [tbD n ts, .str (reprS n ts)]) (fun _ => false) (fun _ => D.int 1) _ fun ts hts => ⟨[a0, a1, a2, a3, a4, a5, a6, a7, a8, a9, a10, some (.loc ph), a12, a13, a14, some (tbD n ts), a16, a17, a18, some (.str (reprS n ts))], rfl, ?_, fun h => by cases h⟩
    obtain ⟨g1, g2, g3⟩ := hg ts hts
    exact tst_i (e2_i (eN_i (c_cons (d := tbD n ts) rfl c_nil) (repr_tb hn g1 g2 g3)) (y := .str (reprS n ts)) rfl (str_ne _))
  rw [filter_none] at key
  have h1 : ipSeq (eV 11) [a0, a1, a2, a3, a4, a5, a6, a7, a8, a9, a10, some (.loc ph), a12, a13, a14, a15, a16, a17, a18, a19] μ = some (tss.map fun ts => D.lst [tbD n ts, .str (reprS n ts)]) := seq_items (items_loc hm)
  have h2 : (tss.map fun ts => D.lst [tbD n ts, .str (reprS n ts)]).length ≤ 100000 := by omega
  have elc : eLc (ipSeq (eV 11)) (egUnl 2 (egCons (egName 15) (egCons (egName 19) egNil))) (eTst (e2 (gEq true) (eN gRepr (eCons (eV 15) eNil)) (eV 19))) (eC (.int 1)) [15, 19] [a0, a1, a2, a3, a4, a5, a6, a7, a8, a9, a10, some (.loc ph), a12, a13, a14, a15, a16, a17, a18, a19] μ = some (.lst []) := by
    simp only [eLc, h1, Option.bind_some, h2, if_true, unsetAll, setS, key]
    rfl
  refine ⟨.bl true, e2_i elc (y := .lst []) rfl ?_, fin⟩
  exact lst_eq_self (k := 0) (fun x hx => by simp at hx) (by decide)
/-- maps and changes -/
theorem life7_ok {C : Addr} {ρ : Ro} {μ : Mu} {p q p2 q2 : Addr} {n : Nat} {E : List Edge} {E' : DEnds} (hM : Mt n E) (h1 : slot ρ 1 = some (roadsD n E)) (h8 : slot ρ 8 = some (.loc p2)) (h9 : slot ρ 9 = some (.loc p)) (w1 : Wat C μ p q (newW n E)) (w2 : Wat C μ p2 q2 (newW n E)) (fin : E'.nx ρ μ) : life7 C E' ρ μ := by
  have hm := hM.map.m
  have hn := hM.map.n2
  have er : roadsD (newW n E).n (sortE (pres (newW n E).ts)) = roadsD n E := by
    show roadsD n (sortE (pres (tyE E))) = _
    rw [pres_tyE, sortE_of hM.map.srt]
  have m1 := watch_map_eq w1
  have m2 := watch_map_eq w2
  rw [er] at m1 m2
  have c1 := watch_changes_nil w1 rfl
  have c2 := watch_changes_nil w2 rfl
  unfold life7
  refine ⟨.loc p, h9, ⟨_, w1.mp, rfl⟩, rfl, roadsD n E, m1, .loc p2, h8, ⟨_, w2.mp, rfl⟩, rfl, roadsD n E, m2, .loc p, h9, ⟨_, w1.mp, rfl⟩, rfl, .lst [], c1, .loc p2, h8, ⟨_, w2.mp, rfl⟩, rfl, .lst [], c2, [], rfl, by show (4 : Nat) ≤ 100000; omega, [.lst [roadsD n E, roadsD n E, .lst [], .lst []]], ?_, rfl, .bl true, ?_, if_no fin⟩
  · exact c_cons (eN_i (c_cons h1 (c_cons h1 (c_cons (eN_i (d := .lst []) c_nil rfl) (c_cons (eN_i (d := .lst []) c_nil rfl) c_nil)))) rfl) c_nil
  · refine same_ok (k := 4) (.lst (by show (4 : Nat) ≤ 1000; omega) fun x hx => ?_) (by decide)
    have pr : Pl 3 (roadsD n E) := pl_roads (by omega)
    have pn : Pl 3 (.lst []) := .lst (k := 2) (by show (0 : Nat) ≤ 1000; omega) fun x hx => by cases hx
    simp only [List.mem_cons, List.not_mem_nil, or_false] at hx
    rcases hx with rfl | rfl | rfl | rfl
    · exact pr
    · exact pr
    · exact pn
    · exact pn
def S__law_life_right (C : Addr) : DC := fun ds μ k => ∃ (bx : Addr) (l : List D) (T mny n : Nat) (E : List Edge) (u : Int) (bn : Bool), ds = [.loc bx, roadsD n E, .int mny, .int u, .bl bn] ∧ μ bx = some (.lst l) ∧ BoxL T l ∧ T + 5000 ≤ 1000000000 ∧ Mt n E ∧ 1 ≤ E.length ∧ (∀ e ∈ E, e.2.2 ≤ 9 * u) ∧ 1 ≤ u ∧ u ≤ 4 * 10 ^ 38 ∧ mny ≤ 40 ∧
  ∀ l', BoxL (T + 1000) l' → k (.bl true) (updM μ bx (.lst l'))
theorem seq_assoc {a b c : DS} : sSeq (sSeq a b) c = sSeq a (sSeq b c) := rfl
end K60
end

section
set_option maxRecDepth 100000
/-! S34: a life as a whole. -/
namespace K60
open PySem PySem.Spec PyProof.Rows L2 DL Wl
noncomputable def lifeD (C : Addr) : DS := sSeq (life0 C) (sSeq (life1 C) (sSeq (life2 C) (sSeq (life3 C) (sSeq (life4 C) (sSeq (life5 C) (sSeq (life6 C) (sSeq (life7 C) (life8 C))))))))
theorem sem_lifeD (C : Addr) (ds : List D) (μ : Mu) (kont : DK) (h : S__law_life_right C ds μ kont) : lifeD C { nx := fun _ μ' => GhV kont .non μ', rt := GhV kont } (startD N__law_life_right ds) μ := by
  obtain ⟨bx, l, T, mny, n, E, u, bn, rfl, hb, B, hT, hM, hE1, h9, hu, hu2, hmny, hk⟩ := h
  have hn2 := hM.map.n2
  unfold lifeD
  refine start_ok (E' := { nx := sSeq (life3 C) (sSeq (life4 C) (sSeq (life5 C) (sSeq (life6 C) (sSeq (life7 C) (life8 C))))) { nx := fun _ μ' => GhV kont .non μ', rt := GhV kont }, rt := GhV kont }) hM hb hu h9 fun p q pn ps ph μ1 F m1 L1 => ?_
  refine loop1_ok (E' := { nx := sSeq (life4 C) (sSeq (life5 C) (sSeq (life6 C) (sSeq (life7 C) (life8 C)))) { nx := fun _ μ' => GhV kont .non μ', rt := GhV kont }, rt := GhV kont }) F hM hE1 hu hu2 hmny m1 B (by omega) L1 fun μ2 l2 chs W hs r6 q12 q13 q14 q15 q17 q18 m2 B2 L2 hcl => ?_
  refine loop2_ok (E' := { nx := sSeq (life5 C) (sSeq (life6 C) (sSeq (life7 C) (life8 C))) { nx := fun _ μ' => GhV kont .non μ', rt := GhV kont }, rt := GhV kont }) F hM m2 B2 (by omega) L2 (by omega) fun μ3 l3 r7 r16 r17 m3 B3 => ?_
  refine read_ok (E' := { nx := sSeq (life6 C) (sSeq (life7 C) (life8 C)) { nx := fun _ μ' => GhV kont .non μ', rt := GhV kont }, rt := GhV kont }) F hM m3 L2 (by omega) rfl fun p2 q2 μ4 V e4 hp2 hq2 hV hHV => ?_
  have Y : F2 bx p q pn ps ph p2 q2 := ⟨hV.pq, (ne_of_mu m3.box hp2).symm, (ne_of_mu m3.wp hp2).symm, (ne_of_mu m3.wq hp2).symm, (ne_of_mu m3.now hp2).symm, (ne_of_mu m3.sts hp2).symm, (ne_of_mu m3.hld hp2).symm, (ne_of_mu m3.box hq2).symm, (ne_of_mu m3.wp hq2).symm, (ne_of_mu m3.wq hq2).symm, (ne_of_mu m3.now hq2).symm, (ne_of_mu m3.sts hq2).symm, (ne_of_mu m3.hld hq2).symm⟩
  have none0 : ∀ a, a ≠ bx → μ3 a = none → μ a = none := fun a ha h => by
    cases hm : μ a with
    | none => rfl
    | some m =>
      rw [m3.ext a m ha hm] at h
      cases h
  refine loop3_ok (E' := { nx := sSeq (life7 C) (life8 C) { nx := fun _ μ' => GhV kont .non μ', rt := GhV kont }, rt := GhV kont }) (q12 := q12) (q13 := q13) (q14 := q14) (q15 := q15) (r16 := r16) (r17 := r17) (q18 := q18) (r6 := r6) (r7 := r7) F Y (none0 _ Y.ypb hp2) (none0 _ Y.yqb hq2) hM (m3.of_ext e4) hV L2.H hHV L2.g L2.ck hcl hmny fun μ5 s6 s13 m5 w5 => ?_
  have w1 : Wat C μ5 p q (newW n E) := (new_wg hM).wat m5.wp m5.wq F.xpq
  refine life7_ok (E' := { nx := life8 C { nx := fun _ μ' => GhV kont .non μ', rt := GhV kont }, rt := GhV kont }) hM rfl rfl rfl w1 w5 ?_
  have hhl := L2.hl
  show life8 C { nx := fun _ μ' => GhV kont .non μ', rt := GhV kont } _ μ5
  refine held_ok (ph := ph) hn2 rfl rfl m5.hld (by omega) L2.hs ?_
  refine GhV.drop (updM μ bx (.lst l3)) (fun a m ha => ?_) (GhV.done (hk l3 (B3.mono (by omega))))
  by_cases hab : a = bx
  · subst hab
    rw [updM_same] at ha
    rw [m5.box]
    exact ha
  · rw [updM_ne hab] at ha
    exact m5.ext a m hab ha
theorem sem__law_life_right (C : Addr) (ds : List D) (μ : Mu) (kont : DK) (h : S__law_life_right C ds μ kont) :
    bd__law_life_right (S_init C) (S_lines C) (S_set_length C) (S_undo C) (S__law_as_anew C) (S__law_enough_right C) S__law_mixed S__law_take (S_read_watch C) (G_Watch_changes C) (G_Watch_lengths C) (G_Watch_map C) G__law_bounded G__law_lengths G__law_map_now G__law_same C { nx := fun _ μ' => GhV kont .non μ', rt := GhV kont } (startD N__law_life_right ds) μ := sem_lifeD C ds μ kont h
end K60
end

section
set_option maxRecDepth 100000
/-! S35: the law as a whole. -/
namespace K60
open PySem PySem.Spec PyProof.Rows L2 DL Wl
def S_law (C : Addr) : DC := fun ds μ k => ∃ ns : List Int, ds = [.scr ns] ∧ k (.bl true) μ
theorem eq0 {μ : Mu} {i : Int} : gEq false μ (.int i) (.int 0) = some (.bl (decide (i = 0))) := by
  rw [eq_int]
  simp
theorem law_map {n : Nat} {E : List Edge} {u : Int} (h : Map n E) (hu2 : u ≤ 4 * 10 ^ 38) (h9 : ∀ e ∈ E, e.2.2 ≤ 9 * u) : Mt n E := ⟨h, fun a b l he => by
  have h1 := h9 _ he
  have h2 : (36 : Int) * 10 ^ 38 < 10 ^ 100 := by decide
  show l < 10 ^ 100
  have h3 : l ≤ 9 * u := h1
  omega⟩
def bodyL (C : Addr) : DS := (sGh (sSeq (sAsg (dFn S__law_box [] 1 (dPA (eCons (eFn G__law_cell [] 2 (eCons (eV 0) (eCons (eV 1) eNil))) eNil))) (dgName 2)) (sSeq (sPar3 5 6 7 (dCons (dOp (p2 (gEq false)) (dFn S__law_take [] 2 (dPA (eCons (eV 2) (eCons (eC (.int 8)) eNil)))) (dP (eC (.int 0)))) (dCons (dOp (p2 (gEq false)) (dFn S__law_take [] 2 (dPA (eCons (eV 2) (eCons (eC (.int 4)) eNil)))) (dP (eC (.int 0)))) (dCons (dOp (p2 (gEq false)) (dFn S__law_take [] 2 (dPA (eCons (eV 2) (eCons (eC (.int 2)) eNil)))) (dP (eC (.int 0)))) (dPA eNil))))) (sSeq (sAsg (dIf (dPT (eTst (eV 6))) (dFn S__law_long [] 1 (dPA (eCons (eV 2) eNil))) (dP (eC (.int 1)))) (dgName 3)) (sSeq (sAsg (dFn S__law_roads [] 3 (dPA (eCons (eV 2) (eCons (eAnd (eV 5) (e2 (gEq false) (eV 1) (eC (.int 0)))) (eCons (eV 3) eNil))))) (dgName 4)) (sIf (dNotT (dTst (dFn (S__law_life_right C) [] 5 (dCons (dP (eV 2)) (dCons (dP (eV 4)) (dCons (dIf (dPT (eAndT (eTst (eV 5)) (eTst (e2 (gEq false) (eV 1) (eC (.int 0)))))) (dP (eC (.int 3))) (dOp (p2 gIx) (dP (eN DL.gLst (eCons (eC (.int 5)) (eCons (eC (.int 12)) (eCons (eC (.int 40)) eNil))))) (dFn S__law_take [] 2 (dPA (eCons (eV 2) (eCons (eC (.int 3)) eNil)))))) (dPA (eCons (eV 3) (eCons (eV 7) eNil))))))))) (sRet (dP (eC (.bl false)))) sNext))))))
theorem law_eq (C : Addr) : bd_law S__law_box (S__law_life_right C) S__law_long S__law_roads S__law_take G__law_cell = sSeq (sFor (iRg1 (dPA (eCons (eN gMax (eCons (eC (.int 2)) (eCons (eN gMin (eCons (eC (.int 3)) (eCons (eN gLen (eCons (eV 0) eNil)) eNil))) eNil))) eNil))) (dgName 1) (bodyL C)) (sRet (dP (eC (.bl true)))) := rfl
theorem bodyL_ok {C : Addr} {ns : List Int} {i : Nat} {μ : Mu} {r2 r3 r4 r5 r6 r7 : Option D} {E' : DEnds} (fin : ∀ r2 r3 r4 r5 r6 r7, E'.nx [some (.scr ns), some (.int i), r2, r3, r4, r5, r6, r7] μ) : bodyL C { E' with ct := E'.nx } [some (.scr ns), some (.int i), r2, r3, r4, r5, r6, r7] μ := by
  obtain ⟨c, hc⟩ := cell_eq (μ := μ) ns i
  unfold bodyL
  refine sGh_i (sSeq_i ⟨[.int c], c_cons (eFn_i (c_cons (d := .scr ns) rfl (c_cons (d := .int i) rfl c_nil)) rfl hc) c_nil, rfl, c, rfl, fun b l hb B => sSeq_i ?_⟩)
  refine ⟨[.loc b, .int (8 : Nat)], rfl, rfl, b, l, 0, 8, rfl, updM_same, B, by decide, by decide, by decide, fun t1 l1 ht1 B1 => ⟨.int 0, rfl, .bl (decide ((t1 : Int) = 0)), eq0, ?_⟩⟩
  rw [updM_twice]
  refine ⟨[.loc b, .int (4 : Nat)], rfl, rfl, b, l1, 1, 4, rfl, updM_same, B1, by decide, by decide, by decide, fun t2 l2 ht2 B2 => ⟨.int 0, rfl, .bl (decide ((t2 : Int) = 0)), eq0, ?_⟩⟩
  rw [updM_twice]
  refine ⟨[.loc b, .int (2 : Nat)], rfl, rfl, b, l2, 2, 2, rfl, updM_same, B2, by decide, by decide, by decide, fun t3 l3 ht3 B3 => ⟨.int 0, rfl, .bl (decide ((t3 : Int) = 0)), eq0, [], rfl, sSeq_i ?_⟩⟩
  rw [updM_twice]
  generalize decide ((t1 : Int) = 0) = wide
  generalize decide ((t2 : Int) = 0) = great
  generalize decide ((t3 : Int) = 0) = bn
  have rest : ∀ (u : Int) (l4 : List D), 1 ≤ u → u ≤ 4 * 10 ^ 38 → BoxL 10 l4 → sSeq (sAsg (dFn S__law_roads [] 3 (dPA (eCons (eV 2) (eCons (eAnd (eV 5) (e2 (gEq false) (eV 1) (eC (.int 0)))) (eCons (eV 3) eNil))))) (dgName 4)) (sIf (dNotT (dTst (dFn (S__law_life_right C) [] 5 (dCons (dP (eV 2)) (dCons (dP (eV 4)) (dCons (dIf (dPT (eAndT (eTst (eV 5)) (eTst (e2 (gEq false) (eV 1) (eC (.int 0)))))) (dP (eC (.int 3))) (dOp (p2 gIx) (dP (eN DL.gLst (eCons (eC (.int 5)) (eCons (eC (.int 12)) (eCons (eC (.int 40)) eNil))))) (dFn S__law_take [] 2 (dPA (eCons (eV 2) (eCons (eC (.int 3)) eNil)))))) (dPA (eCons (eV 3) (eCons (eV 7) eNil))))))))) (sRet (dP (eC (.bl false)))) sNext)
      { E' with nx := GhS E'.nx, ct := GhS E'.nx } [some (.scr ns), some (.int i), some (.loc b), some (.int u), r4, some (.bl wide), some (.bl great), some (.bl bn)] (updM μ b (.lst l4)) := fun u l4 hu hu2 B4 => by
    have ew : eAnd (eV 5) (e2 (gEq false) (eV 1) (eC (.int 0))) [some (.scr ns), some (.int i), some (.loc b), some (.int u), r4, some (.bl wide), some (.bl great), some (.bl bn)] (updM μ b (.lst l4)) = some (.bl (wide && decide ((i : Int) = 0))) := by
      have h1 : e2 (gEq false) (eV 1) (eC (.int 0)) [some (.scr ns), some (.int i), some (.loc b), some (.int u), r4, some (.bl wide), some (.bl great), some (.bl bn)] (updM μ b (.lst l4)) = some (.bl (decide ((i : Int) = 0))) := e2_i (x := .int i) rfl (y := .int 0) rfl eq0
      cases wide with
      | true =>
        simp only [eAnd, eV, slot, Option.bind_some, if_true, Bool.true_and]
        exact h1
      | false => rfl
    refine sSeq_i ⟨[.loc b, .bl (wide && decide ((i : Int) = 0)), .int u], c_cons (d := .loc b) rfl (c_cons ew (c_cons (d := .int u) rfl c_nil)), rfl, b, l4, 10, _, u, rfl, updM_same, B4, by decide, hu, hu2, fun n E l5 hn2 hMap hE2 h9 B5 => ?_⟩
    rw [updM_twice]
    have hM := law_map hMap hu2 h9
    have hfin : ∀ (k : DK) (l6 : List D) (mny T : Nat), BoxL T l6 → T + 5000 ≤ 1000000000 → mny ≤ 40 → (∀ l', k (.bl true) (updM μ b (.lst l'))) → S__law_life_right C [.loc b, roadsD n E, .int mny, .int u, .bl bn] (updM μ b (.lst l6)) k := fun k l6 mny T B6 hT hmny hk => by
      refine ⟨b, l6, T, mny, n, E, u, bn, rfl, updM_same, B6, hT, hM, by omega, h9, hu, hu2, hmny, fun l7 B7 => ?_⟩
      rw [updM_twice]
      exact hk l7
    have hend : ∀ (l7 : List D), GhS E'.nx [some (.scr ns), some (.int i), some (.loc b), some (.int u), some (roadsD n E), some (.bl wide), some (.bl great), some (.bl bn)] (updM μ b (.lst l7)) := fun l7 => GhS.drop μ (Ext.new (Ext.refl _) hb) (GhS.done (fin _ _ _ _ _ _))
    have tw : eAndT (eTst (eV 5)) (eTst (e2 (gEq false) (eV 1) (eC (.int 0)))) [some (.scr ns), some (.int i), some (.loc b), some (.int u), some (roadsD n E), some (.bl wide), some (.bl great), some (.bl bn)] (updM μ b (.lst l5)) = some (wide && decide ((i : Int) = 0)) := by
      have h1 := tst_i (e2_i (f := gEq false) (u := eV 1) (v := eC (.int 0)) (ρ := [some (.scr ns), some (.int i), some (.loc b), some (.int u), some (roadsD n E), some (.bl wide), some (.bl great), some (.bl bn)]) (μ := updM μ b (.lst l5)) (x := .int i) rfl (y := .int 0) rfl eq0)
      cases wide with
      | true => exact and_t (tst_i rfl) h1
      | false => exact and_f (tst_i rfl)
    refine ⟨.loc b, rfl, roadsD n E, rfl, _, tw, ?_⟩
    cases hw : (wide && decide ((i : Int) = 0)) with
    | true => exact if_yes ⟨.int (3 : Nat), rfl, [.int u, .bl bn], rfl, rfl, hfin _ l5 3 _ B5 (by decide) (by decide) fun l7 => if_no (hend l7)⟩
    | false =>
      refine if_no ⟨.lst [.int 5, .int 12, .int 40], rfl, [.loc b, .int (3 : Nat)], rfl, rfl, b, l5, 10 + 1000, 3, rfl, updM_same, B5, by decide, by decide, by decide, fun r l6 hr B6 => ?_⟩
      rw [updM_twice]
      rcases (by omega : r = 0 ∨ r = 1 ∨ r = 2) with e | e | e <;> subst e
      · exact ⟨.int (5 : Nat), ix_lst rfl, [.int u, .bl bn], rfl, rfl, hfin _ l6 5 _ B6 (by decide) (by decide) fun l7 => if_no (hend l7)⟩
      · exact ⟨.int (12 : Nat), ix_lst rfl, [.int u, .bl bn], rfl, rfl, hfin _ l6 12 _ B6 (by decide) (by decide) fun l7 => if_no (hend l7)⟩
      · exact ⟨.int (40 : Nat), ix_lst rfl, [.int u, .bl bn], rfl, rfl, hfin _ l6 40 _ B6 (by decide) (by decide) fun l7 => if_no (hend l7)⟩
  have t6 : eTst (eV 6) [some (.scr ns), some (.int i), some (.loc b), r3, r4, some (.bl wide), some (.bl great), some (.bl bn)] (updM μ b (.lst l3)) = some great := tst_i rfl
  refine sSeq_i ⟨great, t6, ?_⟩
  cases great with
  | true =>
    refine if_yes ⟨[.loc b], rfl, rfl, b, l3, 3, rfl, updM_same, B3, by decide, fun u l4 hu hu2 B4 => ?_⟩
    rw [updM_twice]
    exact rest u l4 hu hu2 B4
  | false => exact if_no ⟨.int 1, rfl, rest 1 l3 (by decide) (by decide) (B3.mono (by decide))⟩
theorem sem_law (C : Addr) (ds : List D) (μ : Mu) (kont : DK) (h : S_law C ds μ kont) :
    bd_law S__law_box (S__law_life_right C) S__law_long S__law_roads S__law_take G__law_cell { nx := fun _ μ' => GhV kont .non μ', rt := GhV kont } (startD N_law ds) μ := by
  obtain ⟨ns, rfl, hk⟩ := h
  rw [law_eq]
  have hlen : eN gLen (eCons (eV 0) eNil) (startD N_law [.scr ns]) μ = some (.int ns.length) := by
    refine eN_i (c_cons (d := .scr ns) rfl c_nil) ?_
    show some (D.int ((ns.map D.int).length : Nat)) = _
    rw [List.length_map]
  refine sSeq_i ?_
  have hr : eN gMax (eCons (eC (.int 2)) (eCons (eN gMin (eCons (eC (.int 3)) (eCons (eN gLen (eCons (eV 0) eNil)) eNil))) eNil)) (startD N_law [.scr ns]) μ = some (.int (if (if (ns.length : Int) < 3 then (ns.length : Int) else 3) > 2 then (if (ns.length : Int) < 3 then (ns.length : Int) else 3) else 2)) :=
    eN_i (c_cons (d := .int 2) rfl (c_cons (eN_i (c_cons (d := .int 3) rfl (c_cons hlen c_nil)) rfl) c_nil)) rfl
  refine ⟨_, c_cons hr c_nil, ⟨by split <;> split <;> omega, by split <;> split <;> omega⟩, ?_⟩
  refine forL_ix (fun i ρ μ' => μ' = μ ∧ ∃ r1 r2 r3 r4 r5 r6 r7, ρ = [some (.scr ns), r1, r2, r3, r4, r5, r6, r7]) (fun _ _ _ _ => trivial) (fun i y ρ μ' N hy hQ hN => ?_) (fun ρ μ' hQ => ?_) ⟨rfl, _, _, _, _, _, _, _, rfl⟩
  · obtain ⟨rfl, r1, r2, r3, r4, r5, r6, r7, rfl⟩ := hQ
    obtain ⟨rfl, hin⟩ := rg_get hy
    exact bodyL_ok (i := i) (E' := { nx := N, rt := _, bk := _, ct := N }) fun s2 s3 s4 s5 s6 s7 => hN _ _ ⟨rfl, _, _, _, _, _, _, _, rfl⟩
  · obtain ⟨rfl, r1, r2, r3, r4, r5, r6, r7, rfl⟩ := hQ
    exact ⟨.bl true, rfl, GhV.done hk⟩
end K60
end

section
set_option maxRecDepth 100000
namespace K60
open PySem PySem.Spec PyProof.Rows L2 DL
set_option maxHeartbeats 4000000
def topS (i : Nat) : Stmt := PySem.Challenge.pw_mapwide_k60_whole_lengths_as_anew.main.body.getD i (.Pass ⟨0, 0, 0, 0⟩)
section
variable {P : Program} {w : World} {K : PySem.W.Frag} {mg : Str → Option Value} {base : Heap}
abbrev s_is_integer : Stmt := topS 12
theorem sc_is_integer : FnScope N_is_integer ["value"] (defScope s_is_integer) := ⟨rfl, rfl, rfl, by decide +kernel, rfl, by decide +kernel, by decide +kernel⟩
theorem wk_is_integer   (mz_bool : mg "bool" = none) (mz_int : mg "int" = none) (mz_isinstance : mg "isinstance" = none) {f : Addr} (cdv : Value) (A : Around) (outer : List Env) (s : Shared) (H : Hp) (E : XK) (hr : Room 0 (A.deeper (envOfC "is_integer" (defScope s_is_integer) s.heap.objs.size f cdv))) :
    PSsD (cxOf CX0 P w K mg base N_is_integer "is_integer" (defScope s_is_integer) f cdv A outer s H E).nox Amb.none (defBody s_is_integer) (bd_is_integer  ) := by
  have hN : N_is_integer.Nodup := by decide +kernel
  have hu := hu_room hr
  exact (psd_one (psd_ret (pv_and (pv_isi (by rfl) mz_isinstance (by rfl) (pn 0) (pe_bltn (by rfl) mz_int (v := .ty "int") (u := .type "int") (by rfl) rfl)) (pv_one (pv_not (pv_isi (by rfl) mz_isinstance (by rfl) (pn 0) (pe_bltn (by rfl) mz_bool (v := .ty "bool") (u := .type "bool") (by rfl) rfl)))))))
abbrev s_is_count : Stmt := topS 13
theorem sc_is_count : FnScope N_is_count ["value"] (defScope s_is_count) := ⟨rfl, rfl, rfl, by decide +kernel, rfl, by decide +kernel, by decide +kernel⟩
theorem wk_is_count {g_is_integer : Mu → List D → Option D}  (B_is_integer : FnB P w K mg base 1 "is_integer" [] 1 (pN g_is_integer)) {f : Addr} (cdv : Value) (A : Around) (outer : List Env) (s : Shared) (H : Hp) (E : XK) (hr : Room 1 (A.deeper (envOfC "is_count" (defScope s_is_count) s.heap.objs.size f cdv))) :
    PSsD (cxOf CX0 P w K mg base N_is_count "is_count" (defScope s_is_count) f cdv A outer s H E).nox Amb.none (defBody s_is_count) (bd_is_count g_is_integer ) := by
  have hN : N_is_count.Nodup := by decide +kernel
  have hu := hu_room hr
  exact (psd_one (psd_ret (pv_and (pv_fn B_is_integer hr (by rfl) (pav_cons (pn 0) pav_nil)) (pv_one (pv_cmp op_ge sd_B0 (pn 0) pv_int (nomark _))))))
abbrev s_is_within : Stmt := topS 14
theorem sc_is_within : FnScope N_is_within ["value", "low", "high"] (defScope s_is_within) := ⟨rfl, rfl, rfl, by decide +kernel, rfl, by decide +kernel, by decide +kernel⟩
theorem wk_is_within {g_is_integer : Mu → List D → Option D}  (B_is_integer : FnB P w K mg base 1 "is_integer" [] 1 (pN g_is_integer)) {f : Addr} (cdv : Value) (A : Around) (outer : List Env) (s : Shared) (H : Hp) (E : XK) (hr : Room 1 (A.deeper (envOfC "is_within" (defScope s_is_within) s.heap.objs.size f cdv))) :
    PSsD (cxOf CX0 P w K mg base N_is_within "is_within" (defScope s_is_within) f cdv A outer s H E).nox Amb.none (defBody s_is_within) (bd_is_within g_is_integer ) := by
  have hN : N_is_within.Nodup := by decide +kernel
  have hu := hu_room hr
  exact (psd_one (psd_ret (pv_and (pv_fn B_is_integer hr (by rfl) (pav_cons (pn 0) pav_nil)) (pv_one (pv_chain (op_leA (hu0 hu)) sd_le (op_leA (hu0 hu)) sd_le (pn 1) (pn 0) (pn 2))))))
abbrev s_is_index : Stmt := topS 15
theorem sc_is_index : FnScope N_is_index ["value", "many"] (defScope s_is_index) := ⟨rfl, rfl, rfl, by decide +kernel, rfl, by decide +kernel, by decide +kernel⟩
theorem wk_is_index {g_is_integer : Mu → List D → Option D}  (B_is_integer : FnB P w K mg base 1 "is_integer" [] 1 (pN g_is_integer)) {f : Addr} (cdv : Value) (A : Around) (outer : List Env) (s : Shared) (H : Hp) (E : XK) (hr : Room 1 (A.deeper (envOfC "is_index" (defScope s_is_index) s.heap.objs.size f cdv))) :
    PSsD (cxOf CX0 P w K mg base N_is_index "is_index" (defScope s_is_index) f cdv A outer s H E).nox Amb.none (defBody s_is_index) (bd_is_index g_is_integer ) := by
  have hN : N_is_index.Nodup := by decide +kernel
  have hu := hu_room hr
  exact (psd_one (psd_ret (pv_and (pv_fn B_is_integer hr (by rfl) (pav_cons (pn 0) pav_nil)) (pv_one (pv_chain (op_leA (hu0 hu)) sd_le op_lt sd_B0 pv_int (pn 0) (pn 1))))))
abbrev s_is_short : Stmt := topS 16
theorem sc_is_short : FnScope N_is_short ["value"] (defScope s_is_short) := ⟨rfl, rfl, rfl, by decide +kernel, rfl, by decide +kernel, by decide +kernel⟩
theorem wk_is_short   (c_BEYOND_DIGITS : GlB mg "BEYOND_DIGITS" (.int (10 ^ 1000))) {f : Addr} (cdv : Value) (A : Around) (outer : List Env) (s : Shared) (H : Hp) (E : XK) (hr : Room 0 (A.deeper (envOfC "is_short" (defScope s_is_short) s.heap.objs.size f cdv))) :
    PSsD (cxOf CX0 P w K mg base N_is_short "is_short" (defScope s_is_short) f cdv A outer s H E).nox Amb.none (defBody s_is_short) (bd_is_short  ) := by
  have hN : N_is_short.Nodup := by decide +kernel
  have hu := hu_room hr
  exact (psd_one (psd_ret (pv_cmp op_lt sd_B0 (pn 0) (pv_gl c_BEYOND_DIGITS (by rfl) fun _ => .int) (nomark _))))
abbrev s_is_list : Stmt := topS 17
theorem sc_is_list : FnScope N_is_list ["value"] (defScope s_is_list) := ⟨rfl, rfl, rfl, by decide +kernel, rfl, by decide +kernel, by decide +kernel⟩
theorem wk_is_list   (mz_isinstance : mg "isinstance" = none) (mz_list : mg "list" = none) (mz_tuple : mg "tuple" = none) {f : Addr} (cdv : Value) (A : Around) (outer : List Env) (s : Shared) (H : Hp) (E : XK) (hr : Room 0 (A.deeper (envOfC "is_list" (defScope s_is_list) s.heap.objs.size f cdv))) :
    PSsD (cxOf CX0 P w K mg base N_is_list "is_list" (defScope s_is_list) f cdv A outer s H E).nox Amb.none (defBody s_is_list) (bd_is_list  ) := by
  have hN : N_is_list.Nodup := by decide +kernel
  have hu := hu_room hr
  exact (psd_one (psd_ret (pv_isi2 (by rfl) mz_isinstance (by rfl) (pn 0) (pe_bltn (by rfl) mz_list (v := .ty "list") (u := .type "list") (by rfl) rfl) (pe_bltn (by rfl) mz_tuple (v := .ty "tuple") (u := .type "tuple") (by rfl) rfl))))
abbrev s_is_tuple : Stmt := topS 18
theorem sc_is_tuple : FnScope N_is_tuple ["value", "many"] (defScope s_is_tuple) := ⟨rfl, rfl, rfl, by decide +kernel, rfl, by decide +kernel, by decide +kernel⟩
theorem wk_is_tuple   (mz_isinstance : mg "isinstance" = none) (mz_len : mg "len" = none) (mz_tuple : mg "tuple" = none) {f : Addr} (cdv : Value) (A : Around) (outer : List Env) (s : Shared) (H : Hp) (E : XK) (hr : Room 0 (A.deeper (envOfC "is_tuple" (defScope s_is_tuple) s.heap.objs.size f cdv))) :
    PSsD (cxOf CX0 P w K mg base N_is_tuple "is_tuple" (defScope s_is_tuple) f cdv A outer s H E).nox Amb.none (defBody s_is_tuple) (bd_is_tuple  ) := by
  have hN : N_is_tuple.Nodup := by decide +kernel
  have hu := hu_room hr
  exact (psd_one (psd_ret (pv_and (pv_isi (by rfl) mz_isinstance (by rfl) (pn 0) (pe_bltn (by rfl) mz_tuple (v := .ty "tuple") (u := .type "tuple") (by rfl) rfl)) (pv_one (pv_cmp (op_eqA (hu64 hu)) sd_eq (pv_callB call_len sd_len (by rfl) mz_len (by rfl) (pav_cons (pn 0) pav_nil)) (pn 1) (nomark _))))))
abbrev s_in_order : Stmt := topS 19
theorem sc_in_order : FnScope N_in_order ["items"] (defScope s_in_order) := ⟨rfl, rfl, rfl, by decide +kernel, rfl, by decide +kernel, by decide +kernel⟩
theorem wk_in_order   (mz_all : mg "all" = none) (mz_len : mg "len" = none) (mz_range : mg "range" = none) {f : Addr} (cdv : Value) (A : Around) (outer : List Env) (s : Shared) (H : Hp) (E : XK) (hr : Room 0 (A.deeper (envOfC "in_order" (defScope s_in_order) s.heap.objs.size f cdv))) :
    PSsD (cxOf CX0 P w K mg base N_in_order "in_order" (defScope s_in_order) f cdv A outer s H E).nox Amb.none (defBody s_in_order) (bd_in_order  ) := by
  have hN : N_in_order.Nodup := by decide +kernel
  have hu := hu_room hr
  exact (psd_one (psd_ret (pv_callB (cr_all rfl) sd_all (by rfl) mz_all (by rfl) (pav_cons (pv_lc (own := [("at", 1)]) rfl hN (piv_rg2 (by rfl) mz_range (pav_cons pv_int (pav_cons (pv_callB call_len sd_len (by rfl) mz_len (by rfl) (pav_cons (pn 0) pav_nil)) pav_nil))) (by show blkC N_in_order (defScope s_in_order) _ _ = true; decide +kernel) (fun _ _ _ _ _ => (pgv_name hN (i := 1))) (fun _ _ _ _ _ => ptsv_nil) (fun _ _ _ _ _ => (pv_cmp (op_leA (hu0 hu)) sd_le (pv_ix (pn 0) (pv_op op_sub sd_I0 (pn 1) pv_int)) (pv_ix (pn 0) (pn 1)) (nomark _)))) pav_nil))))
abbrev s_count_in : Stmt := topS 20
theorem sc_count_in : FnScope N_count_in ["word", "most"] (defScope s_count_in) := ⟨rfl, rfl, rfl, by decide +kernel, rfl, by decide +kernel, by decide +kernel⟩
theorem wk_count_in   (c_DIGITS : GlB mg "DIGITS" (.str "0123456789")) (mz_all : mg "all" = none) (mz_int : mg "int" = none) (mz_len : mg "len" = none) {f : Addr} (cdv : Value) (A : Around) (outer : List Env) (s : Shared) (H : Hp) (E : XK) (hr : Room 0 (A.deeper (envOfC "count_in" (defScope s_count_in) s.heap.objs.size f cdv))) :
    PSsD (cxOf CX0 P w K mg base N_count_in "count_in" (defScope s_count_in) f cdv A outer s H E).nox Amb.none (defBody s_count_in) (bd_count_in  ) := by
  have hN : N_count_in.Nodup := by decide +kernel
  have hu := hu_room hr
  exact (psd_cons (psd_if (pw_ptV (pw_orV (pt_notV (pt_chainV (op_leA (hu0 hu)) sd_le (op_leA (hu0 hu)) sd_le pv_int (pv_callB call_len sd_len (by rfl) mz_len (by rfl) (pav_cons (pn 0) pav_nil)) (pn 1))) (pw_or1V (pt_notV (pt_valV (pv_callB (cr_all rfl) sd_all (by rfl) mz_all (by rfl) (pav_cons (pv_lc (own := [("sign", 2)]) rfl hN (piv_seq (pn 0)) (by show blkC N_count_in (defScope s_count_in) _ _ = true; decide +kernel) (fun _ _ _ _ _ => (pgv_name hN (i := 2))) (fun _ _ _ _ _ => ptsv_nil) (fun _ _ _ _ _ => (pv_cmp (op_inA hu) sd_in (pn 2) (pv_gl c_DIGITS (by rfl) fun _ => .str) (by with_unfolding_all rfl)))) pav_nil))))))) (psd_one (psd_ret pv_non)) psd_nil) (psd_one (psd_ret (pv_if (pw_ptV (pw_orV (pt_cmpV (op_eqA (hu64 hu)) sd_eq (pn 0) pv_str (nomark _)) (pw_or1V (pt_cmpV (op_neA (hu64 hu)) sd_ne (pv_ix (pn 0) pv_int) pv_str (nomark _))))) (pv_callTy call_intA sd_int (by rfl) mz_int (by rfl) (pav_cons (pn 0) pav_nil)) pv_non))))
abbrev s_plus : Stmt := topS 21
theorem sc_plus : FnScope N_plus ["one", "other"] (defScope s_plus) := ⟨rfl, rfl, rfl, by decide +kernel, rfl, by decide +kernel, by decide +kernel⟩
theorem wk_plus    {f : Addr} (cdv : Value) (A : Around) (outer : List Env) (s : Shared) (H : Hp) (E : XK) (hr : Room 0 (A.deeper (envOfC "plus" (defScope s_plus) s.heap.objs.size f cdv))) :
    PSsD (cxOf CX0 P w K mg base N_plus "plus" (defScope s_plus) f cdv A outer s H E).nox Amb.none (defBody s_plus) (bd_plus  ) := by
  have hN : N_plus.Nodup := by decide +kernel
  have hu := hu_room hr
  exact (psd_one (psd_ret (pv_if (pw_ptV (pw_orV (pt_cmpV op_isA sd_is (pn 0) pv_non (nomark _)) (pw_or1V (pt_cmpV op_isA sd_is (pn 1) pv_non (nomark _))))) pv_non (pv_op op_addA sd_add (pn 0) (pn 1)))))
abbrev s_is_less : Stmt := topS 22
theorem sc_is_less : FnScope N_is_less ["one", "other"] (defScope s_is_less) := ⟨rfl, rfl, rfl, by decide +kernel, rfl, by decide +kernel, by decide +kernel⟩
theorem wk_is_less    {f : Addr} (cdv : Value) (A : Around) (outer : List Env) (s : Shared) (H : Hp) (E : XK) (hr : Room 0 (A.deeper (envOfC "is_less" (defScope s_is_less) s.heap.objs.size f cdv))) :
    PSsD (cxOf CX0 P w K mg base N_is_less "is_less" (defScope s_is_less) f cdv A outer s H E).nox Amb.none (defBody s_is_less) (bd_is_less  ) := by
  have hN : N_is_less.Nodup := by decide +kernel
  have hu := hu_room hr
  exact (psd_one (psd_ret (pv_and (pv_cmp op_isNotA sd_isNot (pn 0) pv_non (nomark _)) (pv_one (pv_or (pv_cmp op_isA sd_is (pn 1) pv_non (nomark _)) (pv_one (pv_cmp op_lt sd_B0 (pn 0) (pn 1) (nomark _))))))))
abbrev s_least : Stmt := topS 23
theorem sc_least : FnScope N_least ["one", "other"] (defScope s_least) := ⟨rfl, rfl, rfl, by decide +kernel, rfl, by decide +kernel, by decide +kernel⟩
theorem wk_least {g_is_less : Mu → List D → Option D}  (B_is_less : FnB P w K mg base 1 "is_less" [] 2 (pN g_is_less)) {f : Addr} (cdv : Value) (A : Around) (outer : List Env) (s : Shared) (H : Hp) (E : XK) (hr : Room 1 (A.deeper (envOfC "least" (defScope s_least) s.heap.objs.size f cdv))) :
    PSsD (cxOf CX0 P w K mg base N_least "least" (defScope s_least) f cdv A outer s H E).nox Amb.none (defBody s_least) (bd_least g_is_less ) := by
  have hN : N_least.Nodup := by decide +kernel
  have hu := hu_room hr
  exact (psd_one (psd_ret (pv_if (pt_valV (pv_fn B_is_less hr (by rfl) (pav_cons (pn 0) (pav_cons (pn 1) pav_nil)))) (pn 0) (pn 1))))
abbrev s_is_tie : Stmt := topS 28
theorem sc_is_tie : FnScope N_is_tie ["many", "value"] (defScope s_is_tie) := ⟨rfl, rfl, rfl, by decide +kernel, rfl, by decide +kernel, by decide +kernel⟩
theorem wk_is_tie {g_is_count : Mu → List D → Option D} {g_is_index : Mu → List D → Option D} {g_is_tuple : Mu → List D → Option D}  (B_is_count : FnB P w K mg base 2 "is_count" [] 1 (pN g_is_count)) (B_is_index : FnB P w K mg base 2 "is_index" [] 2 (pN g_is_index)) (B_is_tuple : FnB P w K mg base 1 "is_tuple" [] 2 (pN g_is_tuple)) {f : Addr} (cdv : Value) (A : Around) (outer : List Env) (s : Shared) (H : Hp) (E : XK) (hr : Room 2 (A.deeper (envOfC "is_tie" (defScope s_is_tie) s.heap.objs.size f cdv))) :
    PSsD (cxOf CX0 P w K mg base N_is_tie "is_tie" (defScope s_is_tie) f cdv A outer s H E).nox Amb.none (defBody s_is_tie) (bd_is_tie g_is_count g_is_index g_is_tuple ) := by
  have hN : N_is_tie.Nodup := by decide +kernel
  have hu := hu_room hr
  exact (psd_cons (psd_if (pw_ptV (pw_orV (pt_notV (pt_valV (pv_fn B_is_tuple hr (by rfl) (pav_cons (pn 1) (pav_cons pv_int pav_nil))))) (pw_orV (pt_notV (pt_valV (pv_fn B_is_index hr (by rfl) (pav_cons (pv_ix (pn 1) pv_int) (pav_cons (pn 0) pav_nil))))) (pw_or1V (pt_notV (pt_valV (pv_fn B_is_index hr (by rfl) (pav_cons (pv_ix (pn 1) pv_int) (pav_cons (pn 0) pav_nil))))))))) (psd_one (psd_ret pv_bl)) psd_nil) (psd_one (psd_ret (pv_and (pv_cmp (op_neA (hu64 hu)) sd_ne (pv_ix (pn 1) pv_int) (pv_ix (pn 1) pv_int) (nomark _)) (pv_one (pv_fn B_is_count hr (by rfl) (pav_cons (pv_ix (pn 1) pv_int) pav_nil)))))))
abbrev s_is_map : Stmt := topS 29
theorem sc_is_map : FnScope N_is_map ["value"] (defScope s_is_map) := ⟨rfl, rfl, rfl, by decide +kernel, rfl, by decide +kernel, by decide +kernel⟩
theorem wk_is_map {g_in_order : Mu → List D → Option D} {g_is_tie : Mu → List D → Option D} {g_is_tuple : Mu → List D → Option D} {g_is_within : Mu → List D → Option D}  (B_in_order : FnB P w K mg base 1 "in_order" [] 1 (pN g_in_order)) (B_is_tie : FnB P w K mg base 3 "is_tie" [] 2 (pN g_is_tie)) (B_is_tuple : FnB P w K mg base 1 "is_tuple" [] 2 (pN g_is_tuple)) (B_is_within : FnB P w K mg base 2 "is_within" [] 3 (pN g_is_within)) (c_MOST_PLACES : GlB mg "MOST_PLACES" (.int 20)) (c_MOST_TIES : GlB mg "MOST_TIES" (.int 120)) (mz_all : mg "all" = none) (mz_isinstance : mg "isinstance" = none) (mz_len : mg "len" = none) (mz_tuple : mg "tuple" = none) {f : Addr} (cdv : Value) (A : Around) (outer : List Env) (s : Shared) (H : Hp) (E : XK) (hr : Room 3 (A.deeper (envOfC "is_map" (defScope s_is_map) s.heap.objs.size f cdv))) :
    PSsD (cxOf CX0 P w K mg base N_is_map "is_map" (defScope s_is_map) f cdv A outer s H E).nox Amb.none (defBody s_is_map) (bd_is_map g_in_order g_is_tie g_is_tuple g_is_within ) := by
  have hN : N_is_map.Nodup := by decide +kernel
  have hu := hu_room hr
  exact (psd_cons (psd_if (pw_ptV (pw_orV (pt_notV (pt_valV (pv_fn B_is_tuple hr (by rfl) (pav_cons (pn 0) (pav_cons pv_int pav_nil))))) (pw_or1V (pt_notV (pt_valV (pv_fn B_is_within hr (by rfl) (pav_cons (pv_ix (pn 0) pv_int) (pav_cons pv_int (pav_cons (pv_gl c_MOST_PLACES (by rfl) fun _ => .int) pav_nil))))))))) (psd_one (psd_ret pv_bl)) psd_nil) (psd_cons (psd_asg (pn 0) (pgd_tup rfl (pgsd_cons (pgd_name hN (i := 1)) (pgsd_cons (pgd_name hN (i := 2)) pgsd_nil)))) (psd_cons (psd_if (pw_ptV (pw_orV (pt_notV (pt_valV (pv_isi (by rfl) mz_isinstance (by rfl) (pn 2) (pe_bltn (by rfl) mz_tuple (v := .ty "tuple") (u := .type "tuple") (by rfl) rfl)))) (pw_or1V (pt_cmpV op_gt sd_B0 (pv_callB call_len sd_len (by rfl) mz_len (by rfl) (pav_cons (pn 2) pav_nil)) (pv_gl c_MOST_TIES (by rfl) fun _ => .int) (nomark _))))) (psd_one (psd_ret pv_bl)) psd_nil) (psd_one (psd_ret (pv_and (pv_callB (cr_all rfl) sd_all (by rfl) mz_all (by rfl) (pav_cons (pv_lc (own := [("tie", 3)]) rfl hN (piv_seq (pn 2)) (by show blkC N_is_map (defScope s_is_map) _ _ = true; decide +kernel) (fun _ _ _ _ _ => (pgv_name hN (i := 3))) (fun _ _ _ _ _ => ptsv_nil) (fun _ _ _ _ _ => (pv_fn B_is_tie hr (by rfl) (pav_cons (pn 1) (pav_cons (pn 3) pav_nil))))) pav_nil)) (pv_one (pv_fn B_in_order hr (by rfl) (pav_cons (pn 2) pav_nil)))))))))
abbrev s_check_map : Stmt := topS 30
theorem sc_check_map : FnScope N_check_map ["roads"] (defScope s_check_map) := ⟨rfl, rfl, rfl, by decide +kernel, rfl, by decide +kernel, by decide +kernel⟩
theorem wk_check_map {g_is_map : Mu → List D → Option D}  (B_is_map : FnB P w K mg base 4 "is_map" [] 1 (pN g_is_map)) {f : Addr} (cdv : Value) (A : Around) (outer : List Env) (s : Shared) (H : Hp) (E : XK) (hr : Room 4 (A.deeper (envOfC "check_map" (defScope s_check_map) s.heap.objs.size f cdv))) :
    PSsD (cxOf CX0 P w K mg base N_check_map "check_map" (defScope s_check_map) f cdv A outer s H E).nox Amb.none (defBody s_check_map) (bd_check_map g_is_map ) := by
  have hN : N_check_map.Nodup := by decide +kernel
  have hu := hu_room hr
  exact (psd_one (psd_if (pt_notV (pt_valV (pv_fn B_is_map hr (by rfl) (pav_cons (pn 0) pav_nil)))) (psd_one psd_never) psd_nil))
abbrev s_map_of : Stmt := topS 31
theorem sc_map_of : FnScope N_map_of ["many", "ties"] (defScope s_map_of) := ⟨rfl, rfl, rfl, by decide +kernel, rfl, by decide +kernel, by decide +kernel⟩
theorem wk_map_of   (mz_sorted : mg "sorted" = none) (mz_tuple : mg "tuple" = none) {f : Addr} (cdv : Value) (A : Around) (outer : List Env) (s : Shared) (H : Hp) (E : XK) (hr : Room 0 (A.deeper (envOfC "map_of" (defScope s_map_of) s.heap.objs.size f cdv))) :
    PSsD (cxOf CX0 P w K mg base N_map_of "map_of" (defScope s_map_of) f cdv A outer s H E).nox Amb.none (defBody s_map_of) (bd_map_of  ) := by
  have hN : N_map_of.Nodup := by decide +kernel
  have hu := hu_room hr
  exact (psd_one (psd_ret (pv_tup (pav_cons (pn 0) (pav_cons (pv_callTy call_tuple_of sd_tuple (by rfl) mz_tuple (by rfl) (pav_cons (pv_callB (cr_sortedT hu) sd_sorted (by rfl) mz_sorted (by rfl) (pav_cons (pn 1) pav_nil)) pav_nil)) pav_nil)))))
abbrev s_write_map : Stmt := topS 32
theorem sc_write_map : FnScope N_write_map ["roads"] (defScope s_write_map) := ⟨rfl, rfl, rfl, by decide +kernel, rfl, by decide +kernel, by decide +kernel⟩
theorem wk_write_map {g_check_map : Mu → List D → Option D} {g_is_short : Mu → List D → Option D}  (B_check_map : FnB P w K mg base 5 "check_map" [] 1 (pN g_check_map)) (B_is_short : FnB P w K mg base 1 "is_short" [] 1 (pN g_is_short)) (mz_all : mg "all" = none) {f : Addr} (cdv : Value) (A : Around) (outer : List Env) (s : Shared) (H : Hp) (E : XK) (hr : Room 5 (A.deeper (envOfC "write_map" (defScope s_write_map) s.heap.objs.size f cdv))) :
    PSsD (cxOf CX0 P w K mg base N_write_map "write_map" (defScope s_write_map) f cdv A outer s H E).nox Amb.none (defBody s_write_map) (bd_write_map g_check_map g_is_short ) := by
  have hN : N_write_map.Nodup := by decide +kernel
  have hu := hu_room hr
  exact (psd_cons (psd_drop (pv_fn B_check_map hr (by rfl) (pav_cons (pn 0) pav_nil))) (psd_cons (psd_asg (pn 0) (pgd_tup rfl (pgsd_cons (pgd_name hN (i := 1)) (pgsd_cons (pgd_name hN (i := 2)) pgsd_nil)))) (psd_cons (psd_if (pt_notV (pt_valV (pv_callB (cr_all rfl) sd_all (by rfl) mz_all (by rfl) (pav_cons (pv_lc (own := [("a", 3), ("b", 4), ("length", 5)]) rfl hN (piv_seq (pn 2)) (by show blkC N_write_map (defScope s_write_map) _ _ = true; decide +kernel) (fun _ _ _ _ _ => (pgv_tup rfl (pgsv_cons (pgv_name hN (i := 3)) (pgsv_cons (pgv_name hN (i := 4)) (pgsv_cons (pgv_name hN (i := 5)) pgsv_nil))))) (fun _ _ _ _ _ => ptsv_nil) (fun _ _ _ _ _ => (pv_fn B_is_short hr (by rfl) (pav_cons (pn 5) pav_nil)))) pav_nil)))) (psd_one psd_never) psd_nil) (psd_one (psd_ret (pv_join pv_str (pv_op op_addA sd_add (pv_lst (pav_cons (pv_joined (PJV.cons pv_str (PJV.cons (pv_fmt (pn 1)) PJV.nil))) pav_nil)) (pv_lc (own := [("a", 3), ("b", 4), ("length", 5)]) rfl hN (piv_seq (pn 2)) (by show blkC N_write_map (defScope s_write_map) _ _ = true; decide +kernel) (fun _ _ _ _ _ => (pgv_tup rfl (pgsv_cons (pgv_name hN (i := 3)) (pgsv_cons (pgv_name hN (i := 4)) (pgsv_cons (pgv_name hN (i := 5)) pgsv_nil))))) (fun _ _ _ _ _ => ptsv_nil) (fun _ _ _ _ _ => (pv_joined (PJV.cons pv_str (PJV.cons (pv_fmt (pn 3)) (PJV.cons pv_str (PJV.cons (pv_fmt (pn 4)) (PJV.cons pv_str (PJV.cons (pv_fmt (pn 5)) PJV.nil))))))))))))))))
abbrev s_tie_in : Stmt := topS 33
theorem sc_tie_in : FnScope N_tie_in ["line"] (defScope s_tie_in) := ⟨rfl, rfl, rfl, by decide +kernel, rfl, by decide +kernel, by decide +kernel⟩
theorem wk_tie_in {g_count_in : Mu → List D → Option D}  (B_count_in_1 : FnB P w K mg base 1 "count_in" [.int 1000] 2 (pN g_count_in)) (B_count_in_2 : FnB P w K mg base 1 "count_in" [] 2 (pN g_count_in)) (c_PLACE_DIGITS : GlB mg "PLACE_DIGITS" (.int 2)) (mz_len : mg "len" = none) {f : Addr} (cdv : Value) (A : Around) (outer : List Env) (s : Shared) (H : Hp) (E : XK) (hr : Room 1 (A.deeper (envOfC "tie_in" (defScope s_tie_in) s.heap.objs.size f cdv))) :
    PSsD (cxOf CX0 P w K mg base N_tie_in "tie_in" (defScope s_tie_in) f cdv A outer s H E).nox Amb.none (defBody s_tie_in) (bd_tie_in g_count_in ) := by
  have hN : N_tie_in.Nodup := by decide +kernel
  have hu := hu_room hr
  exact (psd_cons (psd_set hN (pv_split (pn 0) pv_str) (i := 1)) (psd_cons (psd_if (pw_ptV (pw_orV (pt_cmpV (op_neA (hu64 hu)) sd_ne (pv_callB call_len sd_len (by rfl) mz_len (by rfl) (pav_cons (pn 1) pav_nil)) pv_int (nomark _)) (pw_or1V (pt_cmpV (op_neA (hu64 hu)) sd_ne (pv_ix (pn 1) pv_int) pv_str (nomark _))))) (psd_one (psd_ret pv_non)) psd_nil) (psd_cons (psd_set hN (pv_tup (pav_cons (pv_fn B_count_in_2 hr (by rfl) (pav_cons (pv_ix (pn 1) pv_int) (pav_cons (pv_gl c_PLACE_DIGITS (by rfl) fun _ => .int) pav_nil))) (pav_cons (pv_fn B_count_in_2 hr (by rfl) (pav_cons (pv_ix (pn 1) pv_int) (pav_cons (pv_gl c_PLACE_DIGITS (by rfl) fun _ => .int) pav_nil))) (pav_cons (pv_fn B_count_in_1 hr (by rfl) (pav_cons (pv_ix (pn 1) pv_int) pav_nil)) pav_nil)))) (i := 2)) (psd_one (psd_ret (pv_if (pt_cmpV (op_inA hu) sd_in pv_non (pn 2) (by with_unfolding_all rfl)) pv_non (pn 2)))))))
abbrev s_read_map : Stmt := topS 34
theorem sc_read_map : FnScope N_read_map ["text"] (defScope s_read_map) := ⟨rfl, rfl, rfl, by decide +kernel, rfl, by decide +kernel, by decide +kernel⟩
theorem wk_read_map {g_count_in : Mu → List D → Option D} {g_is_map : Mu → List D → Option D} {g_map_of : Mu → List D → Option D} {g_tie_in : Mu → List D → Option D}  (B_count_in_2 : FnB P w K mg base 1 "count_in" [] 2 (pN g_count_in)) (B_is_map : FnB P w K mg base 4 "is_map" [] 1 (pN g_is_map)) (B_map_of : FnB P w K mg base 1 "map_of" [] 2 (pN g_map_of)) (B_tie_in : FnB P w K mg base 2 "tie_in" [] 1 (pN g_tie_in)) (c_PLACE_DIGITS : GlB mg "PLACE_DIGITS" (.int 2)) (mz_isinstance : mg "isinstance" = none) (mz_len : mg "len" = none) (mz_str : mg "str" = none) {f : Addr} (cdv : Value) (A : Around) (outer : List Env) (s : Shared) (H : Hp) (E : XK) (hr : Room 4 (A.deeper (envOfC "read_map" (defScope s_read_map) s.heap.objs.size f cdv))) :
    PSsD (cxOf CX0 P w K mg base N_read_map "read_map" (defScope s_read_map) f cdv A outer s H E).nox Amb.none (defBody s_read_map) (bd_read_map g_count_in g_is_map g_map_of g_tie_in ) := by
  have hN : N_read_map.Nodup := by decide +kernel
  have hu := hu_room hr
  exact (psd_cons (psd_if (pt_notV (pt_valV (pv_isi (by rfl) mz_isinstance (by rfl) (pn 0) (pe_bltn (by rfl) mz_str (v := .ty "str") (u := .type "str") (by rfl) rfl)))) (psd_one psd_never) psd_nil) (psd_cons (psd_asg (pv_split (pn 0) pv_str) (pgd_star rfl (pgsd_cons (pgd_name hN (i := 2)) (pgsd_star (pgsd_cons (pgd_name hN (i := 5)) pgsd_nil))))) (psd_cons (psd_par rfl hN (pav_cons (pv_split (pn 2) pv_str) (pav_cons (pv_lc (own := [("line", 6)]) rfl hN (piv_seq (pn 5)) (by show blkC N_read_map (defScope s_read_map) _ _ = true; decide +kernel) (fun _ _ _ _ _ => (pgv_name hN (i := 6))) (fun _ _ _ _ _ => ptsv_nil) (fun _ _ _ _ _ => (pv_fn B_tie_in hr (by rfl) (pav_cons (pn 6) pav_nil)))) pav_nil)) (i := 3) (j := 4)) (psd_cons (psd_if (pw_ptV (pw_orV (pt_cmpV (op_neA (hu64 hu)) sd_ne (pv_callB call_len sd_len (by rfl) mz_len (by rfl) (pav_cons (pn 3) pav_nil)) pv_int (nomark _)) (pw_orV (pt_cmpV (op_neA (hu64 hu)) sd_ne (pv_ix (pn 3) pv_int) pv_str (nomark _)) (pw_or1V (pt_cmpV (op_inA hu) sd_in pv_non (pn 4) (by with_unfolding_all rfl)))))) (psd_one psd_never) psd_nil) (psd_cons (psd_set hN (pv_fn B_map_of hr (by rfl) (pav_cons (pv_fn B_count_in_2 hr (by rfl) (pav_cons (pv_ix (pn 3) pv_int) (pav_cons (pv_gl c_PLACE_DIGITS (by rfl) fun _ => .int) pav_nil))) (pav_cons (pn 4) pav_nil))) (i := 1)) (psd_cons (psd_if (pt_notV (pt_valV (pv_fn B_is_map hr (by rfl) (pav_cons (pn 1) pav_nil)))) (psd_one psd_never) psd_nil) (psd_one (psd_ret (pn 1)))))))))
abbrev s_ties_from : Stmt := topS 36
theorem sc_ties_from : FnScope N_ties_from ["many", "ties"] (defScope s_ties_from) := ⟨rfl, rfl, rfl, by decide +kernel, rfl, by decide +kernel, by decide +kernel⟩
theorem wk_ties_from   (mz_enumerate : mg "enumerate" = none) (mz_range : mg "range" = none) {f : Addr} (cdv : Value) (A : Around) (outer : List Env) (s : Shared) (H : Hp) (E : XK) (hr : Room 0 (A.deeper (envOfC "ties_from" (defScope s_ties_from) s.heap.objs.size f cdv))) :
    PSsD (cxOf CX0 P w K mg base N_ties_from "ties_from" (defScope s_ties_from) f cdv A outer s H E).nox Amb.none (defBody s_ties_from) (bd_ties_from  ) := by
  have hN : N_ties_from.Nodup := by decide +kernel
  have hu := hu_room hr
  exact (psd_cons (psd_setLcF (own := [("_", 4)]) rfl hN (pid_rg1 (by rfl) mz_range (pav_cons (pn 0) pav_nil)) (by show blkC N_ties_from (defScope s_ties_from) _ _ = true; decide +kernel) (fun _ _ _ _ _ => (pgd_name hN (i := 4))) (fun _ _ _ _ _ => ptsd_nil) (fun _ _ _ _ _ => (pd_lstM pav_nil)) (sw_true rfl rfl rfl (by rfl)) (i := 2)) (psd_cons (psd_for PassesOwn.never rfl (pid_en (by rfl) mz_enumerate (pav_cons (pn 1) pav_nil)) (pgd_tup rfl (pgsd_cons (pgd_name hN (i := 3)) (pgsd_cons (pgd_tup rfl (pgsd_cons (pgd_name hN (i := 5)) (pgsd_cons (pgd_name hN (i := 6)) (pgsd_cons (pgd_name hN (i := 7)) pgsd_nil)))) pgsd_nil))) (psd_gh (psd_one (psd_drop (pd_app (pv_ix (pn 2) (pn 5)) (pav_cons (pv_tup (pav_cons (pn 3) (pav_cons (pn 6) (pav_cons (pn 7) pav_nil)))) pav_nil)))))) (psd_one (psd_ret (pn 2)))))
abbrev s_search : Stmt := topS 37
theorem sc_search : FnScope N_search ["many", "ties", "one"] (defScope s_search) := ⟨rfl, rfl, rfl, by decide +kernel, rfl, by decide +kernel, by decide +kernel⟩
theorem wk_search {S_ties_from : DC} {g_is_less : Mu → List D → Option D}  (B_is_less : FnB P w K mg base 1 "is_less" [] 2 (pN g_is_less)) (B_ties_from : FnB P w K mg base 1 "ties_from" [] 2 S_ties_from) (mz_list : mg "list" = none) (mz_range : mg "range" = none) {f : Addr} (cdv : Value) (A : Around) (outer : List Env) (s : Shared) (H : Hp) (E : XK) (hr : Room 1 (A.deeper (envOfC "search" (defScope s_search) s.heap.objs.size f cdv))) :
    PSsD (cxOf CX0 P w K mg base N_search "search" (defScope s_search) f cdv A outer s H E).nox Amb.none (defBody s_search) (bd_search S_ties_from g_is_less ) := by
  have hN : N_search.Nodup := by decide +kernel
  have hu := hu_room hr
  exact (psd_cons (psd_asg (pd_tup (pad_cons (pd_fn B_ties_from hr (by rfl) (pav_cons (pn 0) (pav_cons (pn 1) pav_nil))) (pad_cons (pd_op op_rep sd_mulM (pd_lstM (pav_cons pv_non pav_nil)) (pn 0)) (pad_cons (pd_op op_rep sd_mulM (pd_lstM (pav_cons pv_non pav_nil)) (pn 0)) (pad_cons (pd_listRgM rfl (by rfl) mz_list (by rfl) mz_range (pn 0)) pav_nil))))) (pgd_tup rfl (pgsd_cons (pgd_name hN (i := 3)) (pgsd_cons (pgd_name hN (i := 4)) (pgsd_cons (pgd_name hN (i := 5)) (pgsd_cons (pgd_name hN (i := 6)) pgsd_nil)))))) (psd_cons (psd_asg pv_int (pgd_sub (pn 4) (pn 2))) (psd_cons (psd_while PassesOwn.never (pt_cmpV (op_neA (hu64 hu)) sd_ne (pn 6) (pv_lst pav_nil) (nomark _)) (psd_gh (psd_cons (psd_set hN (pv_ix (pn 6) pv_int) (i := 7)) (psd_cons (psd_for PassesOwn.never rfl (pid_seq (pn 6)) (pgd_name hN (i := 8)) (psd_gh (psd_one (psd_if (pt_valV (pv_fn B_is_less hr (by rfl) (pav_cons (pv_ix (pn 4) (pn 8)) (pav_cons (pv_ix (pn 4) (pn 7)) pav_nil)))) (psd_one (psd_set hN (pn 8) (i := 7))) psd_nil)))) (psd_cons (psd_drop (pd_rem rfl (pn 6) (pn 7))) (psd_cons (psd_if (pt_cmpV op_isA sd_is (pv_ix (pn 4) (pn 7)) pv_non (nomark _)) (psd_one (psd_ret (pv_tup (pav_cons (pn 4) (pav_cons (pn 5) pav_nil))))) psd_nil) (psd_one (psd_for PassesOwn.never rfl (pid_seq (pv_ix (pn 3) (pn 7))) (pgd_tup rfl (pgsd_cons (pgd_name hN (i := 9)) (pgsd_cons (pgd_name hN (i := 8)) (pgsd_cons (pgd_name hN (i := 10)) pgsd_nil)))) (psd_gh (psd_one (psd_if (pt_valV (pv_fn B_is_less hr (by rfl) (pav_cons (pv_op op_addA sd_add (pv_ix (pn 4) (pn 7)) (pn 10)) (pav_cons (pv_ix (pn 4) (pn 8)) pav_nil)))) (psd_one (psd_asg (pv_tup (pav_cons (pv_op op_addA sd_add (pv_ix (pn 4) (pn 7)) (pn 10)) (pav_cons (pn 9) pav_nil))) (pgd_tup rfl (pgsd_cons (pgd_sub (pn 4) (pn 8)) (pgsd_cons (pgd_sub (pn 5) (pn 8)) pgsd_nil))))) psd_nil))))))))))) (psd_one (psd_ret (pv_tup (pav_cons (pn 4) (pav_cons (pn 5) pav_nil))))))))
abbrev s_lengths_from : Stmt := topS 38
theorem sc_lengths_from : FnScope N_lengths_from ["many", "ties", "one"] (defScope s_lengths_from) := ⟨rfl, rfl, rfl, by decide +kernel, rfl, by decide +kernel, by decide +kernel⟩
theorem wk_lengths_from {S_search : DC}  (B_search : FnB P w K mg base 2 "search" [] 3 S_search) {f : Addr} (cdv : Value) (A : Around) (outer : List Env) (s : Shared) (H : Hp) (E : XK) (hr : Room 2 (A.deeper (envOfC "lengths_from" (defScope s_lengths_from) s.heap.objs.size f cdv))) :
    PSsD (cxOf CX0 P w K mg base N_lengths_from "lengths_from" (defScope s_lengths_from) f cdv A outer s H E).nox Amb.none (defBody s_lengths_from) (bd_lengths_from S_search ) := by
  have hN : N_lengths_from.Nodup := by decide +kernel
  have hu := hu_room hr
  exact (psd_one (psd_ret (pd_ix (pd_fn B_search hr (by rfl) (pav_cons (pn 0) (pav_cons (pn 1) (pav_cons (pn 2) pav_nil)))) pv_int)))
abbrev s_lengths_of : Stmt := topS 39
theorem sc_lengths_of : FnScope N_lengths_of ["roads"] (defScope s_lengths_of) := ⟨rfl, rfl, rfl, by decide +kernel, rfl, by decide +kernel, by decide +kernel⟩
theorem wk_lengths_of {g_lengths_from : Mu → List D → Option D}  (B_lengths_from : FnB P w K mg base 3 "lengths_from" [] 3 (pN g_lengths_from)) (mz_range : mg "range" = none) (mz_tuple : mg "tuple" = none) {f : Addr} (cdv : Value) (A : Around) (outer : List Env) (s : Shared) (H : Hp) (E : XK) (hr : Room 3 (A.deeper (envOfC "lengths_of" (defScope s_lengths_of) s.heap.objs.size f cdv))) :
    PSsD (cxOf CX0 P w K mg base N_lengths_of "lengths_of" (defScope s_lengths_of) f cdv A outer s H E).nox Amb.none (defBody s_lengths_of) (bd_lengths_of g_lengths_from ) := by
  have hN : N_lengths_of.Nodup := by decide +kernel
  have hu := hu_room hr
  exact (psd_one (psd_ret (pv_callTy call_tuple_of sd_tuple (by rfl) mz_tuple (by rfl) (pav_cons (pv_lc (own := [("one", 1)]) rfl hN (piv_rg1 (by rfl) mz_range (pav_cons (pv_ix (pn 0) pv_int) pav_nil)) (by show blkC N_lengths_of (defScope s_lengths_of) _ _ = true; decide +kernel) (fun _ _ _ _ _ => (pgv_name hN (i := 1))) (fun _ _ _ _ _ => ptsv_nil) (fun _ _ _ _ _ => (pv_callTy call_tuple_of sd_tuple (by rfl) mz_tuple (by rfl) (pav_cons (pv_fn B_lengths_from hr (by rfl) (pav_cons (pv_ix (pn 0) pv_int) (pav_cons (pv_ix (pn 0) pv_int) (pav_cons (pn 1) pav_nil)))) pav_nil)))) pav_nil))))
abbrev s_lengths : Stmt := topS 40
theorem sc_lengths : FnScope N_lengths ["roads"] (defScope s_lengths) := ⟨rfl, rfl, rfl, by decide +kernel, rfl, by decide +kernel, by decide +kernel⟩
theorem wk_lengths {g_check_map : Mu → List D → Option D} {g_lengths_of : Mu → List D → Option D}  (B_check_map : FnB P w K mg base 5 "check_map" [] 1 (pN g_check_map)) (B_lengths_of : FnB P w K mg base 4 "lengths_of" [] 1 (pN g_lengths_of)) {f : Addr} (cdv : Value) (A : Around) (outer : List Env) (s : Shared) (H : Hp) (E : XK) (hr : Room 5 (A.deeper (envOfC "lengths" (defScope s_lengths) s.heap.objs.size f cdv))) :
    PSsD (cxOf CX0 P w K mg base N_lengths "lengths" (defScope s_lengths) f cdv A outer s H E).nox Amb.none (defBody s_lengths) (bd_lengths g_check_map g_lengths_of ) := by
  have hN : N_lengths.Nodup := by decide +kernel
  have hu := hu_room hr
  exact (psd_cons (psd_drop (pv_fn B_check_map hr (by rfl) (pav_cons (pn 0) pav_nil))) (psd_one (psd_ret (pv_fn B_lengths_of hr (by rfl) (pav_cons (pn 0) pav_nil)))))
abbrev s_present : Stmt := topS 46
theorem sc_present : FnScope N_present ["ties"] (defScope s_present) := ⟨rfl, rfl, rfl, by decide +kernel, rfl, by decide +kernel, by decide +kernel⟩
theorem wk_present    {f : Addr} (cdv : Value) (A : Around) (outer : List Env) (s : Shared) (H : Hp) (E : XK) (hr : Room 0 (A.deeper (envOfC "present" (defScope s_present) s.heap.objs.size f cdv))) :
    PSsD (cxOf CX0 P w K mg base N_present "present" (defScope s_present) f cdv A outer s H E).nox Amb.none (defBody s_present) (bd_present  ) := by
  have hN : N_present.Nodup := by decide +kernel
  have hu := hu_room hr
  exact (psd_one (psd_ret (pv_lc (own := [("tie", 1)]) rfl hN (piv_seq (pn 0)) (by show blkC N_present (defScope s_present) _ _ = true; decide +kernel) (fun _ _ _ _ _ => (pgv_name hN (i := 1))) (fun _ _ _ _ _ => (ptsv_one (pt_cmpV op_isNotA sd_isNot (pv_ix (pn 1) pv_int) pv_non (nomark _)))) (fun _ _ _ _ _ => (pn 1)))))
abbrev s_with_length : Stmt := topS 47
theorem sc_with_length : FnScope N_with_length ["ties", "index", "length"] (defScope s_with_length) := ⟨rfl, rfl, rfl, by decide +kernel, rfl, by decide +kernel, by decide +kernel⟩
theorem wk_with_length    {f : Addr} (cdv : Value) (A : Around) (outer : List Env) (s : Shared) (H : Hp) (E : XK) (hr : Room 0 (A.deeper (envOfC "with_length" (defScope s_with_length) s.heap.objs.size f cdv))) :
    PSsD (cxOf CX0 P w K mg base N_with_length "with_length" (defScope s_with_length) f cdv A outer s H E).nox Amb.none (defBody s_with_length) (bd_with_length  ) := by
  have hN : N_with_length.Nodup := by decide +kernel
  have hu := hu_room hr
  exact (psd_cons (psd_asg (pv_ix (pn 0) (pn 1)) (pgd_tup rfl (pgsd_cons (pgd_name hN (i := 3)) (pgsd_cons (pgd_name hN (i := 4)) (pgsd_cons (pgd_name hN (i := 5)) pgsd_nil))))) (psd_one (psd_ret (pv_lst (pav_star (pv_sl (pn 0) pov_none (pov_some (pn 1))) (pav_cons (pv_tup (pav_cons (pn 3) (pav_cons (pn 4) (pav_cons (pn 2) pav_nil)))) (pav_star (pv_sl (pn 0) (pov_some (pv_op op_addA sd_add (pn 1) pv_int)) pov_none) pav_nil)))))))
abbrev s_shortened : Stmt := topS 48
theorem sc_shortened : FnScope N_shortened ["table", "a", "b", "length"] (defScope s_shortened) := ⟨rfl, rfl, rfl, by decide +kernel, rfl, by decide +kernel, by decide +kernel⟩
theorem wk_shortened {g_least : Mu → List D → Option D} {g_plus : Mu → List D → Option D}  (B_least : FnB P w K mg base 2 "least" [] 2 (pN g_least)) (B_plus : FnB P w K mg base 1 "plus" [] 2 (pN g_plus)) (mz_tuple : mg "tuple" = none) (mz_zip : mg "zip" = none) {f : Addr} (cdv : Value) (A : Around) (outer : List Env) (s : Shared) (H : Hp) (E : XK) (hr : Room 2 (A.deeper (envOfC "shortened" (defScope s_shortened) s.heap.objs.size f cdv))) :
    PSsD (cxOf CX0 P w K mg base N_shortened "shortened" (defScope s_shortened) f cdv A outer s H E).nox Amb.none (defBody s_shortened) (bd_shortened g_least g_plus ) := by
  have hN : N_shortened.Nodup := by decide +kernel
  have hu := hu_room hr
  exact (psd_cons (psd_set hN (pd_lstM pav_nil) (i := 4)) (psd_cons (psd_for PassesOwn.never rfl (pid_seq (pn 0)) (pgd_name hN (i := 5)) (psd_gh (psd_cons (psd_set hN (pv_fn B_plus hr (by rfl) (pav_cons (pv_ix (pn 5) (pn 1)) (pav_cons (pn 3) pav_nil))) (i := 6)) (psd_one (psd_drop (pd_app (pn 4) (pav_cons (pv_callTy call_tuple_of sd_tuple (by rfl) mz_tuple (by rfl) (pav_cons (pv_lc (own := [("before", 7), ("onward", 8)]) rfl hN (piv_zp (by rfl) mz_zip (pav_cons (pn 5) (pav_cons (pv_ix (pn 0) (pn 2)) pav_nil))) (by show blkC N_shortened (defScope s_shortened) _ _ = true; decide +kernel) (fun _ _ _ _ _ => (pgv_tup rfl (pgsv_cons (pgv_name hN (i := 7)) (pgsv_cons (pgv_name hN (i := 8)) pgsv_nil)))) (fun _ _ _ _ _ => ptsv_nil) (fun _ _ _ _ _ => (pv_fn B_least hr (by rfl) (pav_cons (pn 7) (pav_cons (pv_fn B_plus hr (by rfl) (pav_cons (pn 6) (pav_cons (pn 8) pav_nil))) pav_nil))))) pav_nil)) pav_nil))))))) (psd_one (psd_ret (pv_callTy call_tuple_of sd_tuple (by rfl) mz_tuple (by rfl) (pav_cons (pn 4) pav_nil))))))
abbrev s_lengthened : Stmt := topS 49
theorem sc_lengthened : FnScope N_lengthened ["many", "table", "ties", "a", "b", "before"] (defScope s_lengthened) := ⟨rfl, rfl, rfl, by decide +kernel, rfl, by decide +kernel, by decide +kernel⟩
theorem wk_lengthened {g_is_less : Mu → List D → Option D} {g_lengths_from : Mu → List D → Option D} {g_plus : Mu → List D → Option D} {g_present : Mu → List D → Option D}  (B_is_less : FnB P w K mg base 1 "is_less" [] 2 (pN g_is_less)) (B_lengths_from : FnB P w K mg base 3 "lengths_from" [] 3 (pN g_lengths_from)) (B_plus : FnB P w K mg base 1 "plus" [] 2 (pN g_plus)) (B_present : FnB P w K mg base 1 "present" [] 1 (pN g_present)) (mz_enumerate : mg "enumerate" = none) (mz_tuple : mg "tuple" = none) {f : Addr} (cdv : Value) (A : Around) (outer : List Env) (s : Shared) (H : Hp) (E : XK) (hr : Room 3 (A.deeper (envOfC "lengthened" (defScope s_lengthened) s.heap.objs.size f cdv))) :
    PSsD (cxOf CX0 P w K mg base N_lengthened "lengthened" (defScope s_lengthened) f cdv A outer s H E).nox Amb.none (defBody s_lengthened) (bd_lengthened g_is_less g_lengths_from g_plus g_present ) := by
  have hN : N_lengthened.Nodup := by decide +kernel
  have hu := hu_room hr
  exact (psd_cons (psd_set hN (pd_lstM pav_nil) (i := 6)) (psd_cons (psd_for PassesOwn.never rfl (pid_en (by rfl) mz_enumerate (pav_cons (pn 1) pav_nil)) (pgd_tup rfl (pgsd_cons (pgd_name hN (i := 7)) (pgsd_cons (pgd_name hN (i := 8)) pgsd_nil))) (psd_gh (psd_cons (psd_set hN (pv_fn B_plus hr (by rfl) (pav_cons (pv_ix (pn 8) (pn 3)) (pav_cons (pn 5) pav_nil))) (i := 9)) (psd_one (psd_drop (pd_app (pn 6) (pav_cons (pv_if (pw_ptV (pw_orV (pt_cmpV op_isA sd_is (pn 9) pv_non (nomark _)) (pw_or1V (pt_valV (pv_fn B_is_less hr (by rfl) (pav_cons (pv_ix (pn 8) (pn 4)) (pav_cons (pn 9) pav_nil))))))) (pn 8) (pv_callTy call_tuple_of sd_tuple (by rfl) mz_tuple (by rfl) (pav_cons (pv_fn B_lengths_from hr (by rfl) (pav_cons (pn 0) (pav_cons (pv_fn B_present hr (by rfl) (pav_cons (pn 2) pav_nil)) (pav_cons (pn 7) pav_nil)))) pav_nil))) pav_nil))))))) (psd_one (psd_ret (pv_callTy call_tuple_of sd_tuple (by rfl) mz_tuple (by rfl) (pav_cons (pn 6) pav_nil))))))
abbrev s_Watch_init : Stmt := inClass (topS 50) 0
theorem sc_Watch_init : FnScope N_Watch_init ["self", "roads"] (defScope s_Watch_init) := ⟨rfl, rfl, rfl, by decide +kernel, rfl, by decide +kernel, by decide +kernel⟩
theorem wk_Watch_init {g_lengths_of : Mu → List D → Option D} {g_write_map : Mu → List D → Option D} {C_Watch : Addr} (B_lengths_of : FnB P w K mg base 4 "lengths_of" [] 1 (pN g_lengths_of)) (B_write_map : FnB P w K mg base 6 "write_map" [] 1 (pN g_write_map)) (K_Watch : Cls K C_Watch) (N_Watch__done : NoAttr K C_Watch "_done") (N_Watch__head : NoAttr K C_Watch "_head") (N_Watch__many : NoAttr K C_Watch "_many") (N_Watch__table : NoAttr K C_Watch "_table") (N_Watch__ties : NoAttr K C_Watch "_ties") (mz_list : mg "list" = none) {f : Addr} (cdv : Value) (A : Around) (outer : List Env) (s : Shared) (H : Hp) (E : XK) (hr : Room 6 (A.deeper (envOfC "Watch.__init__" (defScope s_Watch_init) s.heap.objs.size f cdv))) :
    PSsD (cxOf CX0 P w K mg base N_Watch_init "Watch.__init__" (defScope s_Watch_init) f cdv A outer s H E).nox Amb.none (defBody s_Watch_init) (bd_Watch_init g_lengths_of g_write_map C_Watch) := by
  have hN : N_Watch_init.Nodup := by decide +kernel
  have hu := hu_room hr
  exact (psd_cons (psd_fld K_Watch N_Watch__head (pn 0) (pv_split (pv_fn B_write_map hr (by rfl) (pav_cons (pn 1) pav_nil)) pv_str)) (psd_cons (psd_fld K_Watch N_Watch__many (pn 0) (pv_ix (pn 1) pv_int)) (psd_cons (psd_fld K_Watch N_Watch__ties (pn 0) (pv_callTy call_list_of sd_list (by rfl) mz_list (by rfl) (pav_cons (pv_ix (pn 1) pv_int) pav_nil))) (psd_cons (psd_fld K_Watch N_Watch__table (pn 0) (pv_fn B_lengths_of hr (by rfl) (pav_cons (pn 1) pav_nil))) (psd_one (psd_fld K_Watch N_Watch__done (pn 0) (pd_lstM pav_nil)))))))
abbrev s_Watch__check_tie : Stmt := inClass (topS 50) 1
theorem sc_Watch__check_tie : FnScope N_Watch__check_tie ["self", "tie"] (defScope s_Watch__check_tie) := ⟨rfl, rfl, rfl, by decide +kernel, rfl, by decide +kernel, by decide +kernel⟩
theorem wk_Watch__check_tie {g_is_index : Mu → List D → Option D} {C_Watch : Addr} (B_is_index : FnB P w K mg base 2 "is_index" [] 2 (pN g_is_index)) (K_Watch : Cls K C_Watch) (N_Watch__ties : NoAttr K C_Watch "_ties") (mz_len : mg "len" = none) {f : Addr} (cdv : Value) (A : Around) (outer : List Env) (s : Shared) (H : Hp) (E : XK) (hr : Room 2 (A.deeper (envOfC "Watch._check_tie" (defScope s_Watch__check_tie) s.heap.objs.size f cdv))) :
    PSsD (cxOf CX0 P w K mg base N_Watch__check_tie "Watch._check_tie" (defScope s_Watch__check_tie) f cdv A outer s H E).nox Amb.none (defBody s_Watch__check_tie) (bd_Watch__check_tie g_is_index C_Watch) := by
  have hN : N_Watch__check_tie.Nodup := by decide +kernel
  have hu := hu_room hr
  exact (psd_one (psd_if (pt_notV (pt_valV (pv_fn B_is_index hr (by rfl) (pav_cons (pn 1) (pav_cons (pv_callB call_len sd_len (by rfl) mz_len (by rfl) (pav_cons (pv_fld K_Watch N_Watch__ties (pn 0)) pav_nil)) pav_nil))))) (psd_one psd_never) psd_nil))
abbrev s_Watch_lengths : Stmt := inClass (topS 50) 2
theorem sc_Watch_lengths : FnScope N_Watch_lengths ["self"] (defScope s_Watch_lengths) := ⟨rfl, rfl, rfl, by decide +kernel, rfl, by decide +kernel, by decide +kernel⟩
theorem wk_Watch_lengths  {C_Watch : Addr} (K_Watch : Cls K C_Watch) (N_Watch__table : NoAttr K C_Watch "_table") {f : Addr} (cdv : Value) (A : Around) (outer : List Env) (s : Shared) (H : Hp) (E : XK) (hr : Room 0 (A.deeper (envOfC "Watch.lengths" (defScope s_Watch_lengths) s.heap.objs.size f cdv))) :
    PSsD (cxOf CX0 P w K mg base N_Watch_lengths "Watch.lengths" (defScope s_Watch_lengths) f cdv A outer s H E).nox Amb.none (defBody s_Watch_lengths) (bd_Watch_lengths  C_Watch) := by
  have hN : N_Watch_lengths.Nodup := by decide +kernel
  have hu := hu_room hr
  exact (psd_one (psd_ret (pv_fld K_Watch N_Watch__table (pn 0))))
abbrev s_Watch_map : Stmt := inClass (topS 50) 3
theorem sc_Watch_map : FnScope N_Watch_map ["self"] (defScope s_Watch_map) := ⟨rfl, rfl, rfl, by decide +kernel, rfl, by decide +kernel, by decide +kernel⟩
theorem wk_Watch_map {g_map_of : Mu → List D → Option D} {g_present : Mu → List D → Option D} {C_Watch : Addr} (B_map_of : FnB P w K mg base 1 "map_of" [] 2 (pN g_map_of)) (B_present : FnB P w K mg base 1 "present" [] 1 (pN g_present)) (K_Watch : Cls K C_Watch) (N_Watch__many : NoAttr K C_Watch "_many") (N_Watch__ties : NoAttr K C_Watch "_ties") {f : Addr} (cdv : Value) (A : Around) (outer : List Env) (s : Shared) (H : Hp) (E : XK) (hr : Room 1 (A.deeper (envOfC "Watch.map" (defScope s_Watch_map) s.heap.objs.size f cdv))) :
    PSsD (cxOf CX0 P w K mg base N_Watch_map "Watch.map" (defScope s_Watch_map) f cdv A outer s H E).nox Amb.none (defBody s_Watch_map) (bd_Watch_map g_map_of g_present C_Watch) := by
  have hN : N_Watch_map.Nodup := by decide +kernel
  have hu := hu_room hr
  exact (psd_one (psd_ret (pv_fn B_map_of hr (by rfl) (pav_cons (pv_fld K_Watch N_Watch__many (pn 0)) (pav_cons (pv_fn B_present hr (by rfl) (pav_cons (pv_fld K_Watch N_Watch__ties (pn 0)) pav_nil)) pav_nil)))))
abbrev s_Watch_set_length : Stmt := inClass (topS 50) 4
theorem sc_Watch_set_length : FnScope N_Watch_set_length ["self", "tie", "length"] (defScope s_Watch_set_length) := ⟨rfl, rfl, rfl, by decide +kernel, rfl, by decide +kernel, by decide +kernel⟩
theorem wk_Watch_set_length {S_lengthened : DC} {S_shortened : DC} {g_Watch__check_tie : Mu → List D → Option D} {g_is_count : Mu → List D → Option D} {g_is_less : Mu → List D → Option D} {g_is_short : Mu → List D → Option D} {g_with_length : Mu → List D → Option D} {C_Watch : Addr} (B_is_count : FnB P w K mg base 2 "is_count" [] 1 (pN g_is_count)) (B_is_less : FnB P w K mg base 1 "is_less" [] 2 (pN g_is_less)) (B_is_short : FnB P w K mg base 1 "is_short" [] 1 (pN g_is_short)) (B_lengthened : FnB P w K mg base 4 "lengthened" [] 6 S_lengthened) (B_shortened : FnB P w K mg base 3 "shortened" [] 4 S_shortened) (B_with_length : FnB P w K mg base 1 "with_length" [] 3 (pN g_with_length)) (K_Watch : Cls K C_Watch) (MT_Watch__check_tie : MtB P w K mg base 3 C_Watch "_check_tie" 2 (pN g_Watch__check_tie)) (N_Watch__done : NoAttr K C_Watch "_done") (N_Watch__many : NoAttr K C_Watch "_many") (N_Watch__table : NoAttr K C_Watch "_table") (N_Watch__ties : NoAttr K C_Watch "_ties") (mz_sum : mg "sum" = none) (mz_zip : mg "zip" = none) {f : Addr} (cdv : Value) (A : Around) (outer : List Env) (s : Shared) (H : Hp) (E : XK) (hr : Room 4 (A.deeper (envOfC "Watch.set_length" (defScope s_Watch_set_length) s.heap.objs.size f cdv))) :
    PSsD (cxOf CX0 P w K mg base N_Watch_set_length "Watch.set_length" (defScope s_Watch_set_length) f cdv A outer s H E).nox Amb.none (defBody s_Watch_set_length) (bd_Watch_set_length S_lengthened S_shortened g_Watch__check_tie g_is_count g_is_less g_is_short g_with_length C_Watch) := by
  have hN : N_Watch_set_length.Nodup := by decide +kernel
  have hu := hu_room hr
  exact (psd_cons (psd_drop (pd_mt MT_Watch__check_tie K_Watch hr (pn 0) (pav_cons (pn 1) pav_nil))) (psd_cons (psd_if (pw_ptV (pw_andV (pt_cmpV op_isNotA sd_isNot (pn 2) pv_non (nomark _)) (pw_and1V (pt_notV (pw_ptV (pw_andV (pt_valV (pv_fn B_is_count hr (by rfl) (pav_cons (pn 2) pav_nil))) (pw_and1V (pt_valV (pv_fn B_is_short hr (by rfl) (pav_cons (pn 2) pav_nil)))))))))) (psd_one psd_never) psd_nil) (psd_cons (psd_par rfl hN (pav_cons (pv_fld K_Watch N_Watch__ties (pn 0)) (pav_cons (pv_fld K_Watch N_Watch__table (pn 0)) pav_nil)) (i := 4) (j := 5)) (psd_cons (psd_asg (pv_ix (pn 4) (pn 1)) (pgd_tup rfl (pgsd_cons (pgd_name hN (i := 6)) (pgsd_cons (pgd_name hN (i := 7)) (pgsd_cons (pgd_name hN (i := 8)) pgsd_nil))))) (psd_cons (psd_fld K_Watch N_Watch__ties (pn 0) (pv_fn B_with_length hr (by rfl) (pav_cons (pn 4) (pav_cons (pn 1) (pav_cons (pn 2) pav_nil))))) (psd_cons (psd_if (pt_valV (pv_fn B_is_less hr (by rfl) (pav_cons (pn 2) (pav_cons (pn 8) pav_nil)))) (psd_one (psd_fld K_Watch N_Watch__table (pn 0) (pd_fn B_shortened hr (by rfl) (pav_cons (pn 5) (pav_cons (pn 6) (pav_cons (pn 7) (pav_cons (pn 2) pav_nil))))))) (psd_one (psd_fld K_Watch N_Watch__table (pn 0) (pd_fn B_lengthened hr (by rfl) (pav_cons (pv_fld K_Watch N_Watch__many (pn 0)) (pav_cons (pn 5) (pav_cons (pv_fld K_Watch N_Watch__ties (pn 0)) (pav_cons (pn 6) (pav_cons (pn 7) (pav_cons (pn 8) pav_nil)))))))))) (psd_cons (psd_set hN (pd_callB (cr_sumA rfl) sd_sumA (by rfl) mz_sum (by rfl) (pad_cons (pd_lc2F (own := [("row", 9), ("after", 10), ("item", 11), ("other", 12)]) (vs1 := [11, 12]) rfl hN (pid_zp (by rfl) mz_zip (pav_cons (pn 5) (pav_cons (pv_fld K_Watch N_Watch__table (pn 0)) pav_nil))) (by show blkC N_Watch_set_length (defScope s_Watch_set_length) _ _ = true; decide +kernel) (by decide) (fun _ _ _ _ _ => (pgd_tup rfl (pgsd_cons (pgd_name hN (i := 9)) (pgsd_cons (pgd_name hN (i := 10)) pgsd_nil)))) (fun _ _ _ _ _ => ptsd_nil) (fun _ _ _ _ _ => (pid_zp (by rfl) mz_zip (pav_cons (pn 9) (pav_cons (pn 10) pav_nil)))) (fun _ _ _ _ _ => (pgd_tup rfl (pgsd_cons (pgd_name hN (i := 11)) (pgsd_cons (pgd_name hN (i := 12)) pgsd_nil)))) (fun _ _ _ _ _ => ptsd_nil) (fun _ _ _ _ _ => (pv_cmp (op_neA (hu64 hu)) sd_ne (pn 11) (pn 12) (nomark _)))) pav_nil)) (i := 3)) (psd_one (psd_drop (pd_app (pv_fld K_Watch N_Watch__done (pn 0)) (pav_cons (pv_tup (pav_cons (pn 1) (pav_cons (pn 2) (pav_cons (pn 3) (pav_cons (pv_tup (pav_cons (pn 4) (pav_cons (pn 5) pav_nil))) pav_nil))))) pav_nil)))))))))))
abbrev s_Watch_changes : Stmt := inClass (topS 50) 5
theorem sc_Watch_changes : FnScope N_Watch_changes ["self"] (defScope s_Watch_changes) := ⟨rfl, rfl, rfl, by decide +kernel, rfl, by decide +kernel, by decide +kernel⟩
theorem wk_Watch_changes  {C_Watch : Addr} (K_Watch : Cls K C_Watch) (N_Watch__done : NoAttr K C_Watch "_done") {f : Addr} (cdv : Value) (A : Around) (outer : List Env) (s : Shared) (H : Hp) (E : XK) (hr : Room 0 (A.deeper (envOfC "Watch.changes" (defScope s_Watch_changes) s.heap.objs.size f cdv))) :
    PSsD (cxOf CX0 P w K mg base N_Watch_changes "Watch.changes" (defScope s_Watch_changes) f cdv A outer s H E).nox Amb.none (defBody s_Watch_changes) (bd_Watch_changes  C_Watch) := by
  have hN : N_Watch_changes.Nodup := by decide +kernel
  have hu := hu_room hr
  exact (psd_one (psd_ret (pv_lc (own := [("change", 1)]) rfl hN (piv_seq (pv_fld K_Watch N_Watch__done (pn 0))) (by show blkC N_Watch_changes (defScope s_Watch_changes) _ _ = true; decide +kernel) (fun _ _ _ _ _ => (pgv_name hN (i := 1))) (fun _ _ _ _ _ => ptsv_nil) (fun _ _ _ _ _ => (pv_sl (pn 1) pov_none (pov_some pv_int))))))
abbrev s_Watch_undo : Stmt := inClass (topS 50) 6
theorem sc_Watch_undo : FnScope N_Watch_undo ["self"] (defScope s_Watch_undo) := ⟨rfl, rfl, rfl, by decide +kernel, rfl, by decide +kernel, by decide +kernel⟩
theorem wk_Watch_undo  {C_Watch : Addr} (K_Watch : Cls K C_Watch) (N_Watch__done : NoAttr K C_Watch "_done") (N_Watch__table : NoAttr K C_Watch "_table") (N_Watch__ties : NoAttr K C_Watch "_ties") {f : Addr} (cdv : Value) (A : Around) (outer : List Env) (s : Shared) (H : Hp) (E : XK) (hr : Room 2 (A.deeper (envOfC "Watch.undo" (defScope s_Watch_undo) s.heap.objs.size f cdv))) :
    PSsD (cxOf CX0 P w K mg base N_Watch_undo "Watch.undo" (defScope s_Watch_undo) f cdv A outer s H E).nox Amb.none (defBody s_Watch_undo) (bd_Watch_undo  C_Watch) := by
  have hN : N_Watch_undo.Nodup := by decide +kernel
  have hu := hu_room hr
  exact (psd_cons (psd_if (pt_cmpV (op_eqA (hu64 hu)) sd_eq (pv_fld K_Watch N_Watch__done (pn 0)) (pv_lst pav_nil) (nomark _)) (psd_one psd_never) psd_nil) (psd_cons (psd_asg (pd_pop (pv_fld K_Watch N_Watch__done (pn 0))) (pgd_tup rfl (pgsd_cons (pgd_name hN (i := 1)) (pgsd_cons (pgd_name hN (i := 2)) (pgsd_cons (pgd_name hN (i := 3)) (pgsd_cons (pgd_name hN (i := 4)) pgsd_nil)))))) (psd_one (psd_asg (pn 4) (pgd_tup rfl (pgsd_cons (pgd_fld K_Watch N_Watch__ties (pn 0)) (pgsd_cons (pgd_fld K_Watch N_Watch__table (pn 0)) pgsd_nil)))))))
abbrev s_Watch_enough : Stmt := inClass (topS 50) 7
theorem sc_Watch_enough : FnScope N_Watch_enough ["self", "tie"] (defScope s_Watch_enough) := ⟨rfl, rfl, rfl, by decide +kernel, rfl, by decide +kernel, by decide +kernel⟩
theorem wk_Watch_enough {g_Watch__check_tie : Mu → List D → Option D} {g_lengths_from : Mu → List D → Option D} {g_present : Mu → List D → Option D} {g_with_length : Mu → List D → Option D} {C_Watch : Addr} (B_lengths_from : FnB P w K mg base 3 "lengths_from" [] 3 (pN g_lengths_from)) (B_present : FnB P w K mg base 1 "present" [] 1 (pN g_present)) (B_with_length : FnB P w K mg base 1 "with_length" [] 3 (pN g_with_length)) (K_Watch : Cls K C_Watch) (MT_Watch__check_tie : MtB P w K mg base 3 C_Watch "_check_tie" 2 (pN g_Watch__check_tie)) (N_Watch__many : NoAttr K C_Watch "_many") (N_Watch__ties : NoAttr K C_Watch "_ties") {f : Addr} (cdv : Value) (A : Around) (outer : List Env) (s : Shared) (H : Hp) (E : XK) (hr : Room 3 (A.deeper (envOfC "Watch.enough" (defScope s_Watch_enough) s.heap.objs.size f cdv))) :
    PSsD (cxOf CX0 P w K mg base N_Watch_enough "Watch.enough" (defScope s_Watch_enough) f cdv A outer s H E).nox Amb.none (defBody s_Watch_enough) (bd_Watch_enough g_Watch__check_tie g_lengths_from g_present g_with_length C_Watch) := by
  have hN : N_Watch_enough.Nodup := by decide +kernel
  have hu := hu_room hr
  exact (psd_cons (psd_drop (pd_mt MT_Watch__check_tie K_Watch hr (pn 0) (pav_cons (pn 1) pav_nil))) (psd_cons (psd_asg (pv_ix (pv_fld K_Watch N_Watch__ties (pn 0)) (pn 1)) (pgd_tup rfl (pgsd_cons (pgd_name hN (i := 2)) (pgsd_cons (pgd_name hN (i := 3)) (pgsd_cons (pgd_name hN (i := 4)) pgsd_nil))))) (psd_one (psd_ret (pv_ix (pv_fn B_lengths_from hr (by rfl) (pav_cons (pv_fld K_Watch N_Watch__many (pn 0)) (pav_cons (pv_fn B_present hr (by rfl) (pav_cons (pv_fn B_with_length hr (by rfl) (pav_cons (pv_fld K_Watch N_Watch__ties (pn 0)) (pav_cons (pn 1) (pav_cons pv_non pav_nil)))) pav_nil)) (pav_cons (pn 2) pav_nil)))) (pn 3))))))
abbrev s_Watch_lines : Stmt := inClass (topS 50) 8
theorem sc_Watch_lines : FnScope N_Watch_lines ["self"] (defScope s_Watch_lines) := ⟨rfl, rfl, rfl, by decide +kernel, rfl, by decide +kernel, by decide +kernel⟩
theorem wk_Watch_lines  {C_Watch : Addr} (K_Watch : Cls K C_Watch) (N_Watch__done : NoAttr K C_Watch "_done") (N_Watch__head : NoAttr K C_Watch "_head") (c_HEAD : GlB mg "HEAD" (.str "watch")) (c_LENGTH : GlB mg "LENGTH" (.str "length")) (c_OUT : GlB mg "OUT" (.str "out")) {f : Addr} (cdv : Value) (A : Around) (outer : List Env) (s : Shared) (H : Hp) (E : XK) (hr : Room 0 (A.deeper (envOfC "Watch.lines" (defScope s_Watch_lines) s.heap.objs.size f cdv))) :
    PSsD (cxOf CX0 P w K mg base N_Watch_lines "Watch.lines" (defScope s_Watch_lines) f cdv A outer s H E).nox Amb.none (defBody s_Watch_lines) (bd_Watch_lines  C_Watch) := by
  have hN : N_Watch_lines.Nodup := by decide +kernel
  have hu := hu_room hr
  exact (psd_cons (psd_set hN (pd_lstM (pav_star (pv_fld K_Watch N_Watch__head (pn 0)) (pav_cons (pv_gl c_HEAD (by rfl) fun _ => .str) pav_nil))) (i := 1)) (psd_cons (psd_for PassesOwn.never rfl (pid_seq (pv_fld K_Watch N_Watch__done (pn 0))) (pgd_tup rfl (pgsd_cons (pgd_name hN (i := 2)) (pgsd_cons (pgd_name hN (i := 3)) (pgsd_cons (pgd_name hN (i := 4)) (pgsd_cons (pgd_name hN (i := 5)) pgsd_nil))))) (psd_gh (psd_one (psd_drop (pd_app (pn 1) (pav_cons (pv_if (pt_cmpV op_isA sd_is (pn 3) pv_non (nomark _)) (pv_joined (PJV.cons (pv_fmt (pv_gl c_OUT (by rfl) fun _ => .str)) (PJV.cons pv_str (PJV.cons (pv_fmt (pn 2)) PJV.nil)))) (pv_joined (PJV.cons (pv_fmt (pv_gl c_LENGTH (by rfl) fun _ => .str)) (PJV.cons pv_str (PJV.cons (pv_fmt (pn 2)) (PJV.cons pv_str (PJV.cons (pv_fmt (pn 3)) PJV.nil))))))) pav_nil)))))) (psd_one (psd_ret (pn 1)))))
abbrev s_change_in : Stmt := topS 51
theorem sc_change_in : FnScope N_change_in ["line"] (defScope s_change_in) := ⟨rfl, rfl, rfl, by decide +kernel, rfl, by decide +kernel, by decide +kernel⟩
theorem wk_change_in {g_count_in : Mu → List D → Option D}  (B_count_in_1 : FnB P w K mg base 1 "count_in" [.int 1000] 2 (pN g_count_in)) (B_count_in_2 : FnB P w K mg base 1 "count_in" [] 2 (pN g_count_in)) (c_LENGTH : GlB mg "LENGTH" (.str "length")) (c_OUT : GlB mg "OUT" (.str "out")) (c_TIE_DIGITS : GlB mg "TIE_DIGITS" (.int 3)) (mz_len : mg "len" = none) {f : Addr} (cdv : Value) (A : Around) (outer : List Env) (s : Shared) (H : Hp) (E : XK) (hr : Room 1 (A.deeper (envOfC "change_in" (defScope s_change_in) s.heap.objs.size f cdv))) :
    PSsD (cxOf CX0 P w K mg base N_change_in "change_in" (defScope s_change_in) f cdv A outer s H E).nox Amb.none (defBody s_change_in) (bd_change_in g_count_in ) := by
  have hN : N_change_in.Nodup := by decide +kernel
  have hu := hu_room hr
  exact (psd_cons (psd_asg (pv_split (pn 0) pv_str) (pgd_star rfl (pgsd_cons (pgd_name hN (i := 1)) (pgsd_star (pgsd_cons (pgd_name hN (i := 2)) pgsd_nil))))) (psd_cons (psd_if (pw_ptV (pw_andV (pt_cmpV (op_eqA (hu64 hu)) sd_eq (pn 1) (pv_gl c_OUT (by rfl) fun _ => .str) (nomark _)) (pw_and1V (pt_cmpV (op_eqA (hu64 hu)) sd_eq (pv_callB call_len sd_len (by rfl) mz_len (by rfl) (pav_cons (pn 2) pav_nil)) pv_int (nomark _))))) (psd_one (psd_ret (pv_tup (pav_cons (pv_fn B_count_in_2 hr (by rfl) (pav_cons (pv_ix (pn 2) pv_int) (pav_cons (pv_gl c_TIE_DIGITS (by rfl) fun _ => .int) pav_nil))) (pav_cons pv_non pav_nil))))) psd_nil) (psd_cons (psd_if (pw_ptV (pw_andV (pt_cmpV (op_eqA (hu64 hu)) sd_eq (pn 1) (pv_gl c_LENGTH (by rfl) fun _ => .str) (nomark _)) (pw_andV (pt_cmpV (op_eqA (hu64 hu)) sd_eq (pv_callB call_len sd_len (by rfl) mz_len (by rfl) (pav_cons (pn 2) pav_nil)) pv_int (nomark _)) (pw_and1V (pt_cmpV op_isNotA sd_isNot (pv_fn B_count_in_1 hr (by rfl) (pav_cons (pv_ix (pn 2) pv_int) pav_nil)) pv_non (nomark _)))))) (psd_one (psd_ret (pv_tup (pav_cons (pv_fn B_count_in_2 hr (by rfl) (pav_cons (pv_ix (pn 2) pv_int) (pav_cons (pv_gl c_TIE_DIGITS (by rfl) fun _ => .int) pav_nil))) (pav_cons (pv_fn B_count_in_1 hr (by rfl) (pav_cons (pv_ix (pn 2) pv_int) pav_nil)) pav_nil))))) psd_nil) (psd_one (psd_ret (pv_tup (pav_cons pv_non (pav_cons pv_non pav_nil))))))))
abbrev s_read_watch : Stmt := topS 52
theorem sc_read_watch : FnScope N_read_watch ["lines"] (defScope s_read_watch) := ⟨rfl, rfl, rfl, by decide +kernel, rfl, by decide +kernel, by decide +kernel⟩
theorem wk_read_watch {S_Watch_init : DC} {S_Watch_lines : DC} {S_Watch_set_length : DC} {g_change_in : Mu → List D → Option D} {g_is_list : Mu → List D → Option D} {g_read_map : Mu → List D → Option D} {C_Watch : Addr} {c_MapError : Value} (B_change_in : FnB P w K mg base 2 "change_in" [] 1 (pN g_change_in)) (B_is_list : FnB P w K mg base 1 "is_list" [] 1 (pN g_is_list)) (B_read_map : FnB P w K mg base 5 "read_map" [] 1 (pN g_read_map)) (K_Watch : Cls K C_Watch) (MK_Watch : MkB P w K mg base 7 C_Watch "Watch" 2 S_Watch_init) (MT_Watch_lines : MtB P w K mg base 1 C_Watch "lines" 1 S_Watch_lines) (MT_Watch_set_length : MtB P w K mg base 5 C_Watch "set_length" 3 S_Watch_set_length) (c_HEAD : GlB mg "HEAD" (.str "watch")) (mg_MapError : mg "MapError" = some c_MapError) (mz_all : mg "all" = none) (mz_isinstance : mg "isinstance" = none) (mz_list : mg "list" = none) (mz_str : mg "str" = none) {f : Addr} (cdv : Value) (A : Around) (outer : List Env) (s : Shared) (H : Hp) (E : XK) (hr : Room 8 (A.deeper (envOfC "read_watch" (defScope s_read_watch) s.heap.objs.size f cdv))) :
    PSsD (cxOf CX0 P w K mg base N_read_watch "read_watch" (defScope s_read_watch) f cdv A outer s H E).nox Amb.none (defBody s_read_watch) (bd_read_watch S_Watch_init S_Watch_lines S_Watch_set_length g_change_in g_is_list g_read_map C_Watch) := by
  have hN : N_read_watch.Nodup := by decide +kernel
  have hu := hu_room hr
  exact (psd_cons (psd_if (pw_ptV (pw_orV (pt_notV (pt_valV (pv_fn B_is_list hr (by rfl) (pav_cons (pn 0) pav_nil)))) (pw_orV (pt_notV (pt_valV (pv_callB (cr_all rfl) sd_all (by rfl) mz_all (by rfl) (pav_cons (pv_lc (own := [("line", 3)]) rfl hN (piv_seq (pn 0)) (by show blkC N_read_watch (defScope s_read_watch) _ _ = true; decide +kernel) (fun _ _ _ _ _ => (pgv_name hN (i := 3))) (fun _ _ _ _ _ => ptsv_nil) (fun _ _ _ _ _ => (pv_isi (by rfl) mz_isinstance (by rfl) (pn 3) (pe_bltn (by rfl) mz_str (v := .ty "str") (u := .type "str") (by rfl) rfl)))) pav_nil)))) (pw_or1V (pt_cmpV (op_notInA hu) sd_notIn (pv_gl c_HEAD (by rfl) fun _ => .str) (pn 0) (by with_unfolding_all rfl)))))) (psd_one psd_never) psd_nil) (psd_cons (psd_set hN (pv_index (pv_callTy call_list_of sd_list (by rfl) mz_list (by rfl) (pav_cons (pn 0) pav_nil)) (pv_gl c_HEAD (by rfl) fun _ => .str)) (i := 1)) (psd_cons (psd_try rfl rfl ⟨by rfl, by decide, .inl mg_MapError⟩ fun pq xe hp => (psd_cons (psd_set hN (pd_make MK_Watch hr (by rfl) (pav_cons (pv_fn B_read_map hr (by rfl) (pav_cons (pv_join pv_str (pv_sl (pn 0) pov_none (pov_some (pn 1)))) pav_nil)) pav_nil)) (i := 2)) (psd_one (psd_for hp rfl (pid_seq (pv_sl (pn 0) (pov_some (pv_op op_addA sd_add (pn 1) pv_int)) pov_none)) (pgd_name hN (i := 3)) (psd_gh (psd_cons (psd_asg (pv_fn B_change_in hr (by rfl) (pav_cons (pn 3) pav_nil)) (pgd_tup rfl (pgsd_cons (pgd_name hN (i := 4)) (pgsd_cons (pgd_name hN (i := 5)) pgsd_nil)))) (psd_one (psd_drop (pd_mt MT_Watch_set_length K_Watch hr (pn 2) (pav_cons (pn 4) (pav_cons (pn 5) pav_nil))))))))))) (psd_cons (psd_if (pt_cmpD (op_neA (hu64 hu)) sd_ne (pd_mt0 MT_Watch_lines K_Watch hr (pn 2)) (pv_callTy call_list_of sd_list (by rfl) mz_list (by rfl) (pav_cons (pn 0) pav_nil)) (nomark _)) (psd_one psd_never) psd_nil) (psd_one (psd_ret (pn 2)))))))
abbrev s__law_cell : Stmt := topS 54
theorem sc__law_cell : FnScope N__law_cell ["script", "k"] (defScope s__law_cell) := ⟨rfl, rfl, rfl, by decide +kernel, rfl, by decide +kernel, by decide +kernel⟩
theorem wk__law_cell   (mz_int : mg "int" = none) (mz_len : mg "len" = none) (mz_sum : mg "sum" = none) {f : Addr} (cdv : Value) (A : Around) (outer : List Env) (s : Shared) (H : Hp) (E : XK) (hr : Room 0 (A.deeper (envOfC "_law_cell" (defScope s__law_cell) s.heap.objs.size f cdv))) :
    PSsD (cxOf CX0 P w K mg base N__law_cell "_law_cell" (defScope s__law_cell) f cdv A outer s H E).nox Amb.none (defBody s__law_cell) (bd__law_cell  ) := by
  have hN : N__law_cell.Nodup := by decide +kernel
  have hu := hu_room hr
  exact (psd_one (psd_ret (pv_if (pt_cmpV op_lt sd_B0 (pn 1) (pv_callB call_len sd_len (by rfl) mz_len (by rfl) (pav_cons (pn 0) pav_nil)) (nomark _)) (pv_ix (pn 0) (pn 1)) (pv_op op_addA sd_add (pv_op op_mulA sd_mul pv_int (pn 1)) (pv_op op_modN sd_mod (pv_callTy call_intA sd_int (by rfl) mz_int (by rfl) (pav_cons (pv_callB (cr_sumA rfl) sd_sumA (by rfl) mz_sum (by rfl) (pav_cons (pv_sl (pn 0) pov_none (pov_some pv_int)) pav_nil)) pav_nil)) pv_int)))))
abbrev s__law_box : Stmt := topS 55
theorem sc__law_box : FnScope N__law_box ["great"] (defScope s__law_box) := ⟨rfl, rfl, rfl, by decide +kernel, rfl, by decide +kernel, by decide +kernel⟩
theorem wk__law_box   (mz_abs : mg "abs" = none) (mz_int : mg "int" = none) {f : Addr} (cdv : Value) (A : Around) (outer : List Env) (s : Shared) (H : Hp) (E : XK) (hr : Room 0 (A.deeper (envOfC "_law_box" (defScope s__law_box) s.heap.objs.size f cdv))) :
    PSsD (cxOf CX0 P w K mg base N__law_box "_law_box" (defScope s__law_box) f cdv A outer s H E).nox Amb.none (defBody s__law_box) (bd__law_box  ) := by
  have hN : N__law_box.Nodup := by decide +kernel
  have hu := hu_room hr
  exact (psd_one (psd_ret (pd_lstM (pav_cons (pv_callB call_abs sd_abs (by rfl) mz_abs (by rfl) (pav_cons (pn 0) pav_nil)) (pav_cons (pv_cmp op_ge sd_B0 (pv_callB call_abs sd_abs (by rfl) mz_abs (by rfl) (pav_cons (pn 0) pav_nil)) (pv_op op_pow sd_pow pv_int pv_int) (nomark _)) (pav_cons (pv_op op_modN sd_mod (pv_callTy call_intA sd_int (by rfl) mz_int (by rfl) (pav_cons (pv_callB call_abs sd_abs (by rfl) mz_abs (by rfl) (pav_cons (pn 0) pav_nil)) pav_nil)) pv_int) (pav_cons pv_int pav_nil)))))))
abbrev s__law_take : Stmt := topS 56
theorem sc__law_take : FnScope N__law_take ["box", "many"] (defScope s__law_take) := ⟨rfl, rfl, rfl, by decide +kernel, rfl, by decide +kernel, by decide +kernel⟩
theorem wk__law_take   (mz_int : mg "int" = none) {f : Addr} (cdv : Value) (A : Around) (outer : List Env) (s : Shared) (H : Hp) (E : XK) (hr : Room 0 (A.deeper (envOfC "_law_take" (defScope s__law_take) s.heap.objs.size f cdv))) :
    PSsD (cxOf CX0 P w K mg base N__law_take "_law_take" (defScope s__law_take) f cdv A outer s H E).nox Amb.none (defBody s__law_take) (bd__law_take  ) := by
  have hN : N__law_take.Nodup := by decide +kernel
  have hu := hu_room hr
  exact (psd_cons (psd_if (pw_ptV (pw_andV (pt_valV (pv_ix (pn 0) pv_int)) (pw_and1V (pt_cmpV op_gt sd_B0 (pv_ix (pn 0) pv_int) pv_int (nomark _))))) (psd_cons (psd_set hN (pv_op op_modN sd_mod (pv_callTy call_intA sd_int (by rfl) mz_int (by rfl) (pav_cons (pv_ix (pn 0) pv_int) pav_nil)) (pn 1)) (i := 3)) (psd_cons (psd_asg (pv_op op_fdivN sd_div (pv_ix (pn 0) pv_int) (pn 1)) (pgd_sub (pn 0) pv_int)) (psd_one (psd_ret (pn 3))))) psd_nil) (psd_cons (psd_asg (pv_op op_addA sd_add (pv_ix (pn 0) pv_int) pv_int) (pgd_sub (pn 0) pv_int)) (psd_cons (psd_set hN (pv_op op_modN sd_mod (pv_callTy call_intA sd_int (by rfl) mz_int (by rfl) (pav_cons (pv_op op_pow sd_pow (pv_op op_addA sd_add (pv_op op_addA sd_add (pv_ix (pn 0) pv_int) (pv_op op_mulA sd_mul pv_int (pv_ix (pn 0) pv_int))) pv_int) pv_int) pav_nil)) pv_int) (i := 2)) (psd_one (psd_ret (pv_op op_modN sd_mod (pv_callTy call_intA sd_int (by rfl) mz_int (by rfl) (pav_cons (pv_op op_fdivN sd_div (pv_op op_modN sd_mod (pv_callTy call_intA sd_int (by rfl) mz_int (by rfl) (pav_cons (pv_op op_pow sd_pow (pv_op op_addA sd_add (pv_op op_mulA sd_mul (pn 2) pv_int) (pv_op op_mulA sd_mul pv_int (pv_ix (pn 0) pv_int))) pv_int) pav_nil)) pv_int) pv_int) pav_nil)) (pn 1)))))))
abbrev s__law_mixed : Stmt := topS 57
theorem sc__law_mixed : FnScope N__law_mixed ["box", "items"] (defScope s__law_mixed) := ⟨rfl, rfl, rfl, by decide +kernel, rfl, by decide +kernel, by decide +kernel⟩
theorem wk__law_mixed {S__law_take : DC}  (B__law_take : FnB P w K mg base 1 "_law_take" [] 2 S__law_take) (mz_len : mg "len" = none) (mz_list : mg "list" = none) (mz_range : mg "range" = none) {f : Addr} (cdv : Value) (A : Around) (outer : List Env) (s : Shared) (H : Hp) (E : XK) (hr : Room 1 (A.deeper (envOfC "_law_mixed" (defScope s__law_mixed) s.heap.objs.size f cdv))) :
    PSsD (cxOf CX0 P w K mg base N__law_mixed "_law_mixed" (defScope s__law_mixed) f cdv A outer s H E).nox Amb.none (defBody s__law_mixed) (bd__law_mixed S__law_take ) := by
  have hN : N__law_mixed.Nodup := by decide +kernel
  have hu := hu_room hr
  exact (psd_cons (psd_par rfl hN (pad_cons (pd_callTy call_list_of sd_listM (by rfl) mz_list (by rfl) (pav_cons (pn 1) pav_nil)) (pad_cons (pd_lstM pav_nil) pav_nil)) (i := 3) (j := 4)) (psd_cons (psd_for PassesOwn.never rfl (pid_rg1 (by rfl) mz_range (pav_cons (pv_callB call_len sd_len (by rfl) mz_len (by rfl) (pav_cons (pn 1) pav_nil)) pav_nil)) (pgd_name hN (i := 2)) (psd_gh (psd_one (psd_drop (pd_app (pn 4) (pad_cons (pd_popAt (pn 3) (pad_cons (pd_fn B__law_take hr (by rfl) (pav_cons (pn 0) (pav_cons (pv_callB call_len sd_len (by rfl) mz_len (by rfl) (pav_cons (pn 3) pav_nil)) pav_nil))) pav_nil)) pav_nil)))))) (psd_one (psd_ret (pn 4)))))
abbrev s__law_same : Stmt := topS 58
theorem sc__law_same : FnScope N__law_same ["given", "due"] (defScope s__law_same) := ⟨rfl, rfl, rfl, by decide +kernel, rfl, by decide +kernel, by decide +kernel⟩
theorem wk__law_same {g__law_same : Mu → List D → Option D} {lvr : Nat}  (B__law_same : FnB P w K mg base lvr "_law_same" [] 2 (pN g__law_same)) (mz_bool : mg "bool" = none) (mz_dict : mg "dict" = none) (mz_int : mg "int" = none) (mz_isinstance : mg "isinstance" = none) (mz_len : mg "len" = none) (mz_list : mg "list" = none) (mz_range : mg "range" = none) (mz_str : mg "str" = none) (mz_tuple : mg "tuple" = none) {f : Addr} (cdv : Value) (A : Around) (outer : List Env) (s : Shared) (H : Hp) (E : XK) (hr : Room lvr (A.deeper (envOfC "_law_same" (defScope s__law_same) s.heap.objs.size f cdv))) :
    PSsD (cxOf CX0 P w K mg base N__law_same "_law_same" (defScope s__law_same) f cdv A outer s H E).nox Amb.none (defBody s__law_same) (bd__law_same g__law_same ) := by
  have hN : N__law_same.Nodup := by decide +kernel
  have hu := hu_room hr
  exact (psd_cons (psd_if (pw_ptV (pw_orV (pt_cmpV op_isA sd_is (pn 1) pv_non (nomark _)) (pw_or1V (pt_valV (pv_isi (by rfl) mz_isinstance (by rfl) (pn 1) (pe_bltn (by rfl) mz_bool (v := .ty "bool") (u := .type "bool") (by rfl) rfl)))))) (psd_one (psd_ret (pv_if (pt_cmpV op_isA sd_is (pn 1) pv_non (nomark _)) (pv_cmp op_isA sd_is (pn 0) pv_non (nomark _)) (pv_and (pv_isi (by rfl) mz_isinstance (by rfl) (pn 0) (pe_bltn (by rfl) mz_bool (v := .ty "bool") (u := .type "bool") (by rfl) rfl)) (pv_one (pv_cmp (op_eqA (hu64 hu)) sd_eq (pv_cmp op_isA sd_is (pn 0) pv_bl (nomark _)) (pv_cmp op_isA sd_is (pn 1) pv_bl (nomark _)) (nomark _))))))) psd_nil) (psd_cons (psd_if (pt_valV (pv_isi (by rfl) mz_isinstance (by rfl) (pn 1) (pe_bltn (by rfl) mz_int (v := .ty "int") (u := .type "int") (by rfl) rfl))) (psd_one (psd_ret (pv_and (pv_isi (by rfl) mz_isinstance (by rfl) (pn 0) (pe_bltn (by rfl) mz_int (v := .ty "int") (u := .type "int") (by rfl) rfl)) (pv_and (pv_not (pv_isi (by rfl) mz_isinstance (by rfl) (pn 0) (pe_bltn (by rfl) mz_bool (v := .ty "bool") (u := .type "bool") (by rfl) rfl))) (pv_one (pv_cmp (op_eqA (hu64 hu)) sd_eq (pv_op op_sub sd_I0 (pv_callTy call_intA sd_int (by rfl) mz_int (by rfl) (pav_cons (pn 0) pav_nil)) (pn 1)) pv_int (nomark _))))))) psd_nil) (psd_cons (psd_if (pt_valV (pv_isi (by rfl) mz_isinstance (by rfl) (pn 1) (pe_bltn (by rfl) mz_str (v := .ty "str") (u := .type "str") (by rfl) rfl))) (psd_one (psd_ret (pv_and (pv_isi (by rfl) mz_isinstance (by rfl) (pn 0) (pe_bltn (by rfl) mz_str (v := .ty "str") (u := .type "str") (by rfl) rfl)) (pv_and (pv_cmp (op_eqA (hu64 hu)) sd_eq (pv_callB call_len sd_len (by rfl) mz_len (by rfl) (pav_cons (pn 0) pav_nil)) (pv_callB call_len sd_len (by rfl) mz_len (by rfl) (pav_cons (pn 1) pav_nil)) (nomark _)) (pv_one (pv_cmp (op_eqA (hu64 hu)) sd_eq (pv_lc (own := [("k", 2)]) rfl hN (piv_rg1 (by rfl) mz_range (pav_cons (pv_callB call_len sd_len (by rfl) mz_len (by rfl) (pav_cons (pn 1) pav_nil)) pav_nil)) (by show blkC N__law_same (defScope s__law_same) _ _ = true; decide +kernel) (fun _ _ _ _ _ => (pgv_name hN (i := 2))) (fun _ _ _ _ _ => (ptsv_one (pt_cmpV (op_neA (hu64 hu)) sd_ne (pv_sl (pn 0) (pov_some (pn 2)) (pov_some (pv_op op_addA sd_add (pn 2) pv_int))) (pv_ix (pn 1) (pn 2)) (nomark _)))) (fun _ _ _ _ _ => (pn 2))) (pv_lst pav_nil) (nomark _))))))) psd_nil) (psd_cons (psd_if (pt_valV (pv_isi (by rfl) mz_isinstance (by rfl) (pn 1) (pe_bltn (by rfl) mz_dict (v := .ty "dict") (u := .type "dict") (by rfl) rfl))) (psd_one psd_never) psd_nil) (psd_cons (psd_if (pw_ptV (pw_orV (pt_cmpV (op_neA (hu64 hu)) sd_ne (pv_isi (by rfl) mz_isinstance (by rfl) (pn 0) (pe_bltn (by rfl) mz_list (v := .ty "list") (u := .type "list") (by rfl) rfl)) (pv_isi (by rfl) mz_isinstance (by rfl) (pn 1) (pe_bltn (by rfl) mz_list (v := .ty "list") (u := .type "list") (by rfl) rfl)) (nomark _)) (pw_or1V (pt_cmpV (op_neA (hu64 hu)) sd_ne (pv_isi (by rfl) mz_isinstance (by rfl) (pn 0) (pe_bltn (by rfl) mz_tuple (v := .ty "tuple") (u := .type "tuple") (by rfl) rfl)) (pv_isi (by rfl) mz_isinstance (by rfl) (pn 1) (pe_bltn (by rfl) mz_tuple (v := .ty "tuple") (u := .type "tuple") (by rfl) rfl)) (nomark _))))) (psd_one (psd_ret pv_bl)) psd_nil) (psd_one (psd_ret (pv_and (pv_cmp (op_eqA (hu64 hu)) sd_eq (pv_callB call_len sd_len (by rfl) mz_len (by rfl) (pav_cons (pn 0) pav_nil)) (pv_callB call_len sd_len (by rfl) mz_len (by rfl) (pav_cons (pn 1) pav_nil)) (nomark _)) (pv_one (pv_cmp (op_eqA (hu64 hu)) sd_eq (pv_lc (own := [("k", 2)]) rfl hN (piv_rg1 (by rfl) mz_range (pav_cons (pv_callB call_len sd_len (by rfl) mz_len (by rfl) (pav_cons (pn 1) pav_nil)) pav_nil)) (by show blkC N__law_same (defScope s__law_same) _ _ = true; decide +kernel) (fun _ _ _ _ _ => (pgv_name hN (i := 2))) (fun _ _ _ _ _ => (ptsv_one (pt_notV (pt_valV (pv_fn B__law_same hr (by rfl) (pav_cons (pv_ix (pn 0) (pn 2)) (pav_cons (pv_ix (pn 1) (pn 2)) pav_nil)) (hk := Nat.le_refl _)))))) (fun _ _ _ _ _ => (pn 2))) (pv_lst pav_nil) (nomark _)))))))))))
abbrev s__law_long : Stmt := topS 60
theorem sc__law_long : FnScope N__law_long ["box"] (defScope s__law_long) := ⟨rfl, rfl, rfl, by decide +kernel, rfl, by decide +kernel, by decide +kernel⟩
theorem wk__law_long {S__law_take : DC}  (B__law_take : FnB P w K mg base 1 "_law_take" [] 2 S__law_take) (mz_int : mg "int" = none) (mz_range : mg "range" = none) {f : Addr} (cdv : Value) (A : Around) (outer : List Env) (s : Shared) (H : Hp) (E : XK) (hr : Room 1 (A.deeper (envOfC "_law_long" (defScope s__law_long) s.heap.objs.size f cdv))) :
    PSsD (cxOf CX0 P w K mg base N__law_long "_law_long" (defScope s__law_long) f cdv A outer s H E).nox Amb.none (defBody s__law_long) (bd__law_long S__law_take ) := by
  have hN : N__law_long.Nodup := by decide +kernel
  have hu := hu_room hr
  exact (psd_cons (psd_set hN pv_int (i := 1)) (psd_cons (psd_for PassesOwn.never rfl (pid_rg1 (by rfl) mz_range (pav_cons pv_int pav_nil)) (pgd_name hN (i := 2)) (psd_gh (psd_one (psd_set hN (pd_op op_addA sd_add (pv_op op_mulA sd_mul (pn 1) (pv_op op_pow sd_pow pv_int pv_int)) (pd_fn B__law_take hr (by rfl) (pav_cons (pn 0) (pav_cons (pv_op op_pow sd_pow pv_int pv_int) pav_nil)))) (i := 1))))) (psd_one (psd_ret (pv_op op_addA sd_add pv_int (pv_op op_modN sd_mod (pv_callTy call_intA sd_int (by rfl) mz_int (by rfl) (pav_cons (pn 1) pav_nil)) (pv_op op_mulA sd_mul pv_int (pv_op op_pow sd_pow pv_int pv_int))))))))
abbrev s__law_two : Stmt := topS 61
theorem sc__law_two : FnScope N__law_two ["box", "many"] (defScope s__law_two) := ⟨rfl, rfl, rfl, by decide +kernel, rfl, by decide +kernel, by decide +kernel⟩
theorem wk__law_two {S__law_take : DC}  (B__law_take : FnB P w K mg base 1 "_law_take" [] 2 S__law_take) (mz_int : mg "int" = none) {f : Addr} (cdv : Value) (A : Around) (outer : List Env) (s : Shared) (H : Hp) (E : XK) (hr : Room 1 (A.deeper (envOfC "_law_two" (defScope s__law_two) s.heap.objs.size f cdv))) :
    PSsD (cxOf CX0 P w K mg base N__law_two "_law_two" (defScope s__law_two) f cdv A outer s H E).nox Amb.none (defBody s__law_two) (bd__law_two S__law_take ) := by
  have hN : N__law_two.Nodup := by decide +kernel
  have hu := hu_room hr
  exact (psd_cons (psd_set hN (pd_fn B__law_take hr (by rfl) (pav_cons (pn 0) (pav_cons (pn 1) pav_nil))) (i := 2)) (psd_one (psd_ret (pd_tup (pad_cons (pn 2) (pad_cons (pd_op op_modN sd_mod (pd_callTy call_intA sd_int (by rfl) mz_int (by rfl) (pad_cons (pd_op op_addA sd_add (pv_op op_addA sd_add (pn 2) pv_int) (pd_fn B__law_take hr (by rfl) (pav_cons (pn 0) (pav_cons (pv_op op_sub sd_I0 (pn 1) pv_int) pav_nil)))) pav_nil)) (pn 1)) pav_nil))))))
abbrev s__law_roads : Stmt := topS 62
theorem sc__law_roads : FnScope N__law_roads ["box", "wide", "unit"] (defScope s__law_roads) := ⟨rfl, rfl, rfl, by decide +kernel, rfl, by decide +kernel, by decide +kernel⟩
theorem wk__law_roads {S__law_mixed : DC} {S__law_take : DC} {S__law_two : DC}  (B__law_mixed : FnB P w K mg base 2 "_law_mixed" [] 2 S__law_mixed) (B__law_take : FnB P w K mg base 1 "_law_take" [] 2 S__law_take) (B__law_two : FnB P w K mg base 2 "_law_two" [] 2 S__law_two) (mz_list : mg "list" = none) (mz_max : mg "max" = none) (mz_range : mg "range" = none) (mz_sorted : mg "sorted" = none) (mz_tuple : mg "tuple" = none) {f : Addr} (cdv : Value) (A : Around) (outer : List Env) (s : Shared) (H : Hp) (E : XK) (hr : Room 2 (A.deeper (envOfC "_law_roads" (defScope s__law_roads) s.heap.objs.size f cdv))) :
    PSsD (cxOf CX0 P w K mg base N__law_roads "_law_roads" (defScope s__law_roads) f cdv A outer s H E).nox Amb.none (defBody s__law_roads) (bd__law_roads S__law_mixed S__law_take S__law_two ) := by
  have hN : N__law_roads.Nodup := by decide +kernel
  have hu := hu_room hr
  exact (psd_cons (psd_set hN (pd_if (pt_valV (pn 1)) pv_int (pd_op op_addA sd_add pv_int (pd_fn B__law_take hr (by rfl) (pav_cons (pn 0) (pav_cons pv_int pav_nil))))) (i := 3)) (psd_cons (psd_asg (pd_tup (pad_cons (pd_if (pt_valV (pn 1)) (pd_op op_addA sd_add pv_int (pd_fn B__law_take hr (by rfl) (pav_cons (pn 0) (pav_cons pv_int pav_nil)))) (pd_op op_addA sd_add (pv_op op_addA sd_add (pn 3) pv_int) (pd_fn B__law_take hr (by rfl) (pav_cons (pn 0) (pav_cons pv_int pav_nil))))) (pad_cons (pd_fn B__law_take hr (by rfl) (pav_cons (pn 0) (pav_cons pv_int pav_nil))) (pad_cons (pd_fn B__law_mixed hr (by rfl) (pav_cons (pn 0) (pav_cons (pv_listRg rfl (by rfl) mz_list (by rfl) mz_range (pn 3)) pav_nil))) pav_nil)))) (pgd_tup rfl (pgsd_cons (pgd_name hN (i := 6)) (pgsd_cons (pgd_name hN (i := 7)) (pgsd_cons (pgd_name hN (i := 8)) pgsd_nil))))) (psd_cons (psd_setLcM (own := [("k", 5)]) rfl hN (pid_rg1 (by rfl) mz_range (pav_cons (pn 3) pav_nil)) (by show blkC N__law_roads (defScope s__law_roads) _ _ = true; decide +kernel) (fun _ _ _ _ _ => (pgd_name hN (i := 5))) (fun _ _ _ _ _ => ptsd_nil) (fun _ _ _ _ _ => (pd_tup (pad_cons (pv_ix (pn 8) (pn 5)) (pad_cons (pv_ix (pn 8) (pv_if (pt_cmpV op_lt sd_B0 (pv_op op_addA sd_add (pn 5) pv_int) (pn 3) (nomark _)) (pv_op op_addA sd_add (pn 5) pv_int) pv_int)) (pad_cons (pd_op op_mulA sd_mul (pn 2) (pd_fn B__law_take hr (by rfl) (pav_cons (pn 0) (pav_cons (pv_ix (pv_lst (pav_cons pv_int (pav_cons pv_int (pav_cons pv_int pav_nil)))) (pn 7)) pav_nil)))) pav_nil))))) (sw_true rfl rfl rfl (by rfl)) (i := 4)) (psd_cons (psd_for PassesOwn.never rfl (pid_rg1 (by rfl) mz_range (pav_cons (pv_callB (call_max2 rfl) sd_max2 (by rfl) mz_max (by rfl) (pav_cons pv_int (pav_cons (pv_op op_sub sd_I0 (pn 6) (pn 3)) pav_nil))) pav_nil)) (pgd_name hN (i := 5)) (psd_gh (psd_cons (psd_asg (pd_fn B__law_two hr (by rfl) (pav_cons (pn 0) (pav_cons (pn 3) pav_nil))) (pgd_tup rfl (pgsd_cons (pgd_name hN (i := 9)) (pgsd_cons (pgd_name hN (i := 10)) pgsd_nil)))) (psd_one (psd_drop (pd_app (pn 4) (pad_cons (pd_tup (pad_cons (pn 9) (pad_cons (pn 10) (pad_cons (pd_op op_mulA sd_mul (pn 2) (pd_fn B__law_take hr (by rfl) (pav_cons (pn 0) (pav_cons (pv_ix (pv_lst (pav_cons pv_int (pav_cons pv_int (pav_cons pv_int pav_nil)))) (pn 7)) pav_nil)))) pav_nil)))) pav_nil))))))) (psd_one (psd_ret (pv_tup (pav_cons (pn 3) (pav_cons (pv_callTy call_tuple_of sd_tuple (by rfl) mz_tuple (by rfl) (pav_cons (pv_callB (cr_sortedT hu) sd_sorted (by rfl) mz_sorted (by rfl) (pav_cons (pn 4) pav_nil)) pav_nil)) pav_nil)))))))))
abbrev s__law_row : Stmt := topS 63
theorem sc__law_row : FnScope N__law_row ["many", "ties", "one"] (defScope s__law_row) := ⟨rfl, rfl, rfl, by decide +kernel, rfl, by decide +kernel, by decide +kernel⟩
theorem wk__law_row   (mz_range : mg "range" = none) (mz_tuple : mg "tuple" = none) {f : Addr} (cdv : Value) (A : Around) (outer : List Env) (s : Shared) (H : Hp) (E : XK) (hr : Room 0 (A.deeper (envOfC "_law_row" (defScope s__law_row) s.heap.objs.size f cdv))) :
    PSsD (cxOf CX0 P w K mg base N__law_row "_law_row" (defScope s__law_row) f cdv A outer s H E).nox Amb.none (defBody s__law_row) (bd__law_row  ) := by
  have hN : N__law_row.Nodup := by decide +kernel
  have hu := hu_room hr
  exact (psd_cons (psd_set hN (pd_op op_rep sd_mulM (pd_lstM (pav_cons pv_non pav_nil)) (pn 0)) (i := 3)) (psd_cons (psd_asg pv_int (pgd_sub (pn 3) (pn 2))) (psd_cons (psd_for PassesOwn.never rfl (pid_rg1 (by rfl) mz_range (pav_cons (pn 0) pav_nil)) (pgd_name hN (i := 4)) (psd_gh (psd_cons (psd_set hN pv_bl (i := 5)) (psd_cons (psd_for PassesOwn.never rfl (pid_seq (pn 1)) (pgd_tup rfl (pgsd_cons (pgd_name hN (i := 6)) (pgsd_cons (pgd_name hN (i := 7)) (pgsd_cons (pgd_name hN (i := 8)) pgsd_nil)))) (psd_gh (psd_one (psd_if (pw_ptV (pw_andV (pt_cmpV op_isNotA sd_isNot (pv_ix (pn 3) (pn 6)) pv_non (nomark _)) (pw_and1V (pw_ptV (pw_orV (pt_cmpV op_isA sd_is (pv_ix (pn 3) (pn 7)) pv_non (nomark _)) (pw_or1V (pt_cmpV op_lt sd_B0 (pv_op op_addA sd_add (pv_ix (pn 3) (pn 6)) (pn 8)) (pv_ix (pn 3) (pn 7)) (nomark _)))))))) (psd_one (psd_asg (pv_tup (pav_cons (pv_op op_addA sd_add (pv_ix (pn 3) (pn 6)) (pn 8)) (pav_cons pv_bl pav_nil))) (pgd_tup rfl (pgsd_cons (pgd_sub (pn 3) (pn 7)) (pgsd_cons (pgd_name hN (i := 5)) pgsd_nil))))) psd_nil)))) (psd_one (psd_if (pt_notV (pt_valV (pn 5))) (psd_one psd_brk) psd_nil)))))) (psd_one (psd_ret (pv_callTy call_tuple_of sd_tuple (by rfl) mz_tuple (by rfl) (pav_cons (pn 3) pav_nil)))))))
abbrev s__law_lengths : Stmt := topS 64
theorem sc__law_lengths : FnScope N__law_lengths ["many", "ties"] (defScope s__law_lengths) := ⟨rfl, rfl, rfl, by decide +kernel, rfl, by decide +kernel, by decide +kernel⟩
theorem wk__law_lengths {g__law_row : Mu → List D → Option D}  (B__law_row : FnB P w K mg base 1 "_law_row" [] 3 (pN g__law_row)) (mz_range : mg "range" = none) (mz_tuple : mg "tuple" = none) {f : Addr} (cdv : Value) (A : Around) (outer : List Env) (s : Shared) (H : Hp) (E : XK) (hr : Room 1 (A.deeper (envOfC "_law_lengths" (defScope s__law_lengths) s.heap.objs.size f cdv))) :
    PSsD (cxOf CX0 P w K mg base N__law_lengths "_law_lengths" (defScope s__law_lengths) f cdv A outer s H E).nox Amb.none (defBody s__law_lengths) (bd__law_lengths g__law_row ) := by
  have hN : N__law_lengths.Nodup := by decide +kernel
  have hu := hu_room hr
  exact (psd_one (psd_ret (pv_callTy call_tuple_of sd_tuple (by rfl) mz_tuple (by rfl) (pav_cons (pv_lc (own := [("one", 2)]) rfl hN (piv_rg1 (by rfl) mz_range (pav_cons (pn 0) pav_nil)) (by show blkC N__law_lengths (defScope s__law_lengths) _ _ = true; decide +kernel) (fun _ _ _ _ _ => (pgv_name hN (i := 2))) (fun _ _ _ _ _ => ptsv_nil) (fun _ _ _ _ _ => (pv_fn B__law_row hr (by rfl) (pav_cons (pn 0) (pav_cons (pn 1) (pav_cons (pn 2) pav_nil)))))) pav_nil))))
abbrev s__law_map_now : Stmt := topS 65
theorem sc__law_map_now : FnScope N__law_map_now ["roads", "now"] (defScope s__law_map_now) := ⟨rfl, rfl, rfl, by decide +kernel, rfl, by decide +kernel, by decide +kernel⟩
theorem wk__law_map_now   (mz_len : mg "len" = none) (mz_range : mg "range" = none) (mz_sorted : mg "sorted" = none) (mz_tuple : mg "tuple" = none) {f : Addr} (cdv : Value) (A : Around) (outer : List Env) (s : Shared) (H : Hp) (E : XK) (hr : Room 0 (A.deeper (envOfC "_law_map_now" (defScope s__law_map_now) s.heap.objs.size f cdv))) :
    PSsD (cxOf CX0 P w K mg base N__law_map_now "_law_map_now" (defScope s__law_map_now) f cdv A outer s H E).nox Amb.none (defBody s__law_map_now) (bd__law_map_now  ) := by
  have hN : N__law_map_now.Nodup := by decide +kernel
  have hu := hu_room hr
  exact (psd_one (psd_ret (pv_tup (pav_cons (pv_ix (pn 0) pv_int) (pav_cons (pv_callTy call_tuple_of sd_tuple (by rfl) mz_tuple (by rfl) (pav_cons (pv_callB (cr_sortedT hu) sd_sorted (by rfl) mz_sorted (by rfl) (pav_cons (pv_lc (own := [("k", 2)]) rfl hN (piv_rg1 (by rfl) mz_range (pav_cons (pv_callB call_len sd_len (by rfl) mz_len (by rfl) (pav_cons (pn 1) pav_nil)) pav_nil)) (by show blkC N__law_map_now (defScope s__law_map_now) _ _ = true; decide +kernel) (fun _ _ _ _ _ => (pgv_name hN (i := 2))) (fun _ _ _ _ _ => (ptsv_one (pt_cmpV op_isNotA sd_isNot (pv_ix (pn 1) (pn 2)) pv_non (nomark _)))) (fun _ _ _ _ _ => (pv_tup (pav_cons (pv_ix (pv_ix (pv_ix (pn 0) pv_int) (pn 2)) pv_int) (pav_cons (pv_ix (pv_ix (pv_ix (pn 0) pv_int) (pn 2)) pv_int) (pav_cons (pv_ix (pn 1) (pn 2)) pav_nil)))))) pav_nil)) pav_nil)) pav_nil)))))
abbrev s__law_bounded : Stmt := topS 66
theorem sc__law_bounded : FnScope N__law_bounded ["before", "after", "old", "new"] (defScope s__law_bounded) := ⟨rfl, rfl, rfl, by decide +kernel, rfl, by decide +kernel, by decide +kernel⟩
theorem wk__law_bounded   (mz_abs : mg "abs" = none) (mz_len : mg "len" = none) (mz_range : mg "range" = none) {f : Addr} (cdv : Value) (A : Around) (outer : List Env) (s : Shared) (H : Hp) (E : XK) (hr : Room 0 (A.deeper (envOfC "_law_bounded" (defScope s__law_bounded) s.heap.objs.size f cdv))) :
    PSsD (cxOf CX0 P w K mg base N__law_bounded "_law_bounded" (defScope s__law_bounded) f cdv A outer s H E).nox Amb.none (defBody s__law_bounded) (bd__law_bounded  ) := by
  have hN : N__law_bounded.Nodup := by decide +kernel
  have hu := hu_room hr
  exact (psd_cons (psd_for PassesOwn.never rfl (pid_rg1 (by rfl) mz_range (pav_cons (pv_callB call_len sd_len (by rfl) mz_len (by rfl) (pav_cons (pn 0) pav_nil)) pav_nil)) (pgd_name hN (i := 4)) (psd_gh (psd_one (psd_for PassesOwn.never rfl (pid_rg1 (by rfl) mz_range (pav_cons (pv_callB call_len sd_len (by rfl) mz_len (by rfl) (pav_cons (pn 0) pav_nil)) pav_nil)) (pgd_name hN (i := 5)) (psd_gh (psd_cons (psd_par rfl hN (pav_cons (pv_ix (pv_ix (pn 1) (pn 4)) (pn 5)) (pav_cons (pv_ix (pv_ix (pn 0) (pn 4)) (pn 5)) pav_nil)) (i := 6) (j := 7)) (psd_cons (psd_if (pw_ptV (pw_orV (pt_cmpV op_isA sd_is (pn 2) pv_non (nomark _)) (pw_or1V (pw_ptV (pw_andV (pt_cmpV op_isNotA sd_isNot (pn 3) pv_non (nomark _)) (pw_and1V (pt_cmpV op_lt sd_B0 (pn 3) (pn 2) (nomark _)))))))) (psd_one (psd_par rfl hN (pav_cons (pn 7) (pav_cons (pn 6) pav_nil)) (i := 6) (j := 7))) psd_nil) (psd_one (psd_if (pw_ptV (pw_andV (pt_cmpV op_isA sd_is (pn 6) pv_non (nomark _)) (pw_andV (pt_cmpV op_isNotA sd_isNot (pn 3) pv_non (nomark _)) (pw_and1V (pt_cmpV op_isNotA sd_isNot (pn 2) pv_non (nomark _)))))) (psd_one (psd_if (pt_cmpV op_isNotA sd_isNot (pn 7) pv_non (nomark _)) (psd_one (psd_ret pv_bl)) psd_nil)) (psd_one (psd_if (pw_ptV (pw_andV (pt_cmpV op_isNotA sd_isNot (pn 6) pv_non (nomark _)) (pw_and1V (pw_ptV (pw_orV (pt_cmpV op_isA sd_is (pn 7) pv_non (nomark _)) (pw_or1V (pt_cmpV op_lt sd_B0 (pn 6) (pn 7) (nomark _)))))))) (psd_one (psd_ret pv_bl)) (psd_one (psd_if (pw_ptV (pw_andV (pt_cmpV op_isNotA sd_isNot (pn 6) pv_non (nomark _)) (pw_andV (pt_cmpV op_isNotA sd_isNot (pn 3) pv_non (nomark _)) (pw_andV (pt_cmpV op_isNotA sd_isNot (pn 2) pv_non (nomark _)) (pw_and1V (pt_cmpV op_gt sd_B0 (pv_op op_sub sd_I0 (pn 6) (pn 7)) (pv_callB call_abs sd_abs (by rfl) mz_abs (by rfl) (pav_cons (pv_op op_sub sd_I0 (pn 3) (pn 2)) pav_nil)) (nomark _))))))) (psd_one (psd_ret pv_bl)) psd_nil))))))))))))) (psd_one (psd_ret pv_bl)))
abbrev s__law_as_anew : Stmt := topS 67
theorem sc__law_as_anew : FnScope N__law_as_anew ["watch", "roads", "now", "due"] (defScope s__law_as_anew) := ⟨rfl, rfl, rfl, by decide +kernel, rfl, by decide +kernel, by decide +kernel⟩
theorem wk__law_as_anew {S_Watch_init : DC} {g_Watch_lengths : Mu → List D → Option D} {g_Watch_map : Mu → List D → Option D} {g__law_map_now : Mu → List D → Option D} {g__law_same : Mu → List D → Option D} {g_lengths : Mu → List D → Option D} {C_Watch : Addr} (B__law_map_now : FnB P w K mg base 1 "_law_map_now" [] 2 (pN g__law_map_now)) (B__law_same : FnB P w K mg base 6 "_law_same" [] 2 (pN g__law_same)) (B_lengths : FnB P w K mg base 6 "lengths" [] 1 (pN g_lengths)) (K_Watch : Cls K C_Watch) (MK_Watch : MkB P w K mg base 7 C_Watch "Watch" 2 S_Watch_init) (MT_Watch_lengths : MtB P w K mg base 1 C_Watch "lengths" 1 (pN g_Watch_lengths)) (MT_Watch_map : MtB P w K mg base 2 C_Watch "map" 1 (pN g_Watch_map)) {f : Addr} (cdv : Value) (A : Around) (outer : List Env) (s : Shared) (H : Hp) (E : XK) (hr : Room 8 (A.deeper (envOfC "_law_as_anew" (defScope s__law_as_anew) s.heap.objs.size f cdv))) :
    PSsD (cxOf CX0 P w K mg base N__law_as_anew "_law_as_anew" (defScope s__law_as_anew) f cdv A outer s H E).nox Amb.none (defBody s__law_as_anew) (bd__law_as_anew S_Watch_init g_Watch_lengths g_Watch_map g__law_map_now g__law_same g_lengths C_Watch) := by
  have hN : N__law_as_anew.Nodup := by decide +kernel
  have hu := hu_room hr
  exact (psd_cons (psd_set hN (pd_mt0 MT_Watch_map K_Watch hr (pn 0)) (i := 4)) (psd_cons (psd_if (pw_pt (pw_orD (pt_notV (pt_valV (pv_fn B__law_same hr (by rfl) (pav_cons (pn 4) (pav_cons (pv_fn B__law_map_now hr (by rfl) (pav_cons (pn 1) (pav_cons (pn 2) pav_nil))) pav_nil))))) (pw_or1D (pt_notD (pt_valD (pd_fn B__law_same hr (by rfl) (pad_cons (pd_mt0 MT_Watch_lengths K_Watch hr (pn 0)) (pav_cons (pn 3) pav_nil)))))))) (psd_one (psd_ret pv_bl)) psd_nil) (psd_one (psd_ret (pd_and (pd_fn B__law_same hr (by rfl) (pad_cons (pd_mt0 MT_Watch_lengths K_Watch hr (pd_make MK_Watch hr (by rfl) (pav_cons (pn 4) pav_nil))) (pav_cons (pn 3) pav_nil))) (pv_one (pv_fn B__law_same hr (by rfl) (pav_cons (pv_fn B_lengths hr (by rfl) (pav_cons (pn 4) pav_nil)) (pav_cons (pn 3) pav_nil)))))))))
abbrev s__law_enough_right : Stmt := topS 68
theorem sc__law_enough_right : FnScope N__law_enough_right ["box", "watch", "roads", "now"] (defScope s__law_enough_right) := ⟨rfl, rfl, rfl, by decide +kernel, rfl, by decide +kernel, by decide +kernel⟩
theorem wk__law_enough_right {S_Watch_enough : DC} {S_Watch_set_length : DC} {S_Watch_undo : DC} {S__law_take : DC} {g_Watch_lengths : Mu → List D → Option D} {g__law_lengths : Mu → List D → Option D} {g__law_map_now : Mu → List D → Option D} {g__law_same : Mu → List D → Option D} {C_Watch : Addr} (B__law_lengths : FnB P w K mg base 2 "_law_lengths" [] 2 (pN g__law_lengths)) (B__law_map_now : FnB P w K mg base 1 "_law_map_now" [] 2 (pN g__law_map_now)) (B__law_same : FnB P w K mg base 6 "_law_same" [] 2 (pN g__law_same)) (B__law_take : FnB P w K mg base 1 "_law_take" [] 2 S__law_take) (K_Watch : Cls K C_Watch) (MT_Watch_enough : MtB P w K mg base 4 C_Watch "enough" 2 S_Watch_enough) (MT_Watch_lengths : MtB P w K mg base 1 C_Watch "lengths" 1 (pN g_Watch_lengths)) (MT_Watch_set_length : MtB P w K mg base 5 C_Watch "set_length" 3 S_Watch_set_length) (MT_Watch_undo : MtB P w K mg base 3 C_Watch "undo" 1 S_Watch_undo) (mz_bool : mg "bool" = none) (mz_int : mg "int" = none) (mz_isinstance : mg "isinstance" = none) (mz_len : mg "len" = none) (mz_range : mg "range" = none) {f : Addr} (cdv : Value) (A : Around) (outer : List Env) (s : Shared) (H : Hp) (E : XK) (hr : Room 6 (A.deeper (envOfC "_law_enough_right" (defScope s__law_enough_right) s.heap.objs.size f cdv))) :
    PSsD (cxOf CX0 P w K mg base N__law_enough_right "_law_enough_right" (defScope s__law_enough_right) f cdv A outer s H E).nox Amb.none (defBody s__law_enough_right) (bd__law_enough_right S_Watch_enough S_Watch_set_length S_Watch_undo S__law_take g_Watch_lengths g__law_lengths g__law_map_now g__law_same C_Watch) := by
  have hN : N__law_enough_right.Nodup := by decide +kernel
  have hu := hu_room hr
  exact (psd_cons (psd_set hN (pd_fn B__law_take hr (by rfl) (pav_cons (pn 0) (pav_cons (pv_callB call_len sd_len (by rfl) mz_len (by rfl) (pav_cons (pn 3) pav_nil)) pav_nil))) (i := 4)) (psd_cons (psd_par3 rfl hN (pad_cons (pd_mt MT_Watch_enough K_Watch hr (pn 1) (pav_cons (pn 4) pav_nil)) (pad_cons (pv_ix (pv_ix (pv_ix (pn 2) pv_int) (pn 4)) pv_int) (pad_cons (pd_mt0 MT_Watch_lengths K_Watch hr (pn 1)) pav_nil))) (i := 8) (j := 9) (l := 10)) (psd_cons (psd_if (pw_ptV (pw_andV (pt_cmpV op_isNotA sd_isNot (pn 8) pv_non (nomark _)) (pw_and1V (pw_ptV (pw_orV (pt_notV (pt_valV (pv_isi (by rfl) mz_isinstance (by rfl) (pn 8) (pe_bltn (by rfl) mz_int (v := .ty "int") (u := .type "int") (by rfl) rfl)))) (pw_orV (pt_valV (pv_isi (by rfl) mz_isinstance (by rfl) (pn 8) (pe_bltn (by rfl) mz_bool (v := .ty "bool") (u := .type "bool") (by rfl) rfl))) (pw_or1V (pt_cmpV op_lt sd_B0 (pn 8) pv_int (nomark _))))))))) (psd_one (psd_ret pv_bl)) psd_nil) (psd_cons (psd_set hN (pd_lstM pav_nil) (i := 5)) (psd_cons (psd_for PassesOwn.never rfl (pid_seq (pv_if (pt_cmpV op_isA sd_is (pn 8) pv_non (nomark _)) (pv_lst (pav_cons pv_non (pav_cons pv_int (pav_cons pv_int pav_nil)))) (pv_op op_addA sd_add (pv_lst (pav_cons pv_non (pav_cons (pn 8) (pav_cons (pv_op op_addA sd_add (pn 8) pv_int) (pav_cons (pv_op op_addA sd_add (pv_op op_mulA sd_mul pv_int (pn 8)) pv_int) pav_nil))))) (pv_if (pt_cmpV op_gt sd_B0 (pn 8) pv_int (nomark _)) (pv_lst (pav_cons (pv_op op_sub sd_I0 (pn 8) pv_int) pav_nil)) (pv_lst pav_nil))))) (pgd_name hN (i := 6)) (psd_gh (psd_cons (psd_if (pt_cmpD op_isNotA sd_isNot (pd_mt MT_Watch_set_length K_Watch hr (pn 1) (pav_cons (pn 4) (pav_cons (pn 6) pav_nil))) pv_non (nomark _)) (psd_one (psd_ret pv_bl)) psd_nil) (psd_cons (psd_drop (pd_app (pn 5) (pad_cons (pd_mt0 MT_Watch_lengths K_Watch hr (pn 1)) pav_nil))) (psd_one (psd_if (pw_pt (pw_orD (pt_cmpD (op_neA (hu64 hu)) sd_ne (pd_mt MT_Watch_enough K_Watch hr (pn 1) (pav_cons (pn 4) pav_nil)) (pn 8) (nomark _)) (pw_or1D (pt_cmpD op_isNotA sd_isNot (pd_mt0 MT_Watch_undo K_Watch hr (pn 1)) pv_non (nomark _))))) (psd_one (psd_ret pv_bl)) psd_nil)))))) (psd_cons (psd_setLcV (own := [("k", 11)]) rfl hN (piv_rg1 (by rfl) mz_range (pav_cons (pv_callB call_len sd_len (by rfl) mz_len (by rfl) (pav_cons (pn 3) pav_nil)) pav_nil)) (by show blkC N__law_enough_right (defScope s__law_enough_right) _ _ = true; decide +kernel) (fun _ _ _ _ _ => (pgv_name hN (i := 11))) (fun _ _ _ _ _ => ptsv_nil) (fun _ _ _ _ _ => (pv_if (pt_cmpV (op_neA (hu64 hu)) sd_ne (pn 11) (pn 4) (nomark _)) (pv_ix (pn 3) (pn 11)) pv_non)) (sw_true rfl rfl rfl (by rfl)) (i := 7)) (psd_cons (psd_if (pw_pt (pw_orD (pt_notV (pt_valV (pv_fn B__law_same hr (by rfl) (pav_cons (pv_ix (pn 5) pv_int) (pav_cons (pv_fn B__law_lengths hr (by rfl) (pav_cons (pv_ix (pn 2) pv_int) (pav_cons (pv_ix (pv_fn B__law_map_now hr (by rfl) (pav_cons (pn 2) (pav_cons (pn 7) pav_nil))) pv_int) pav_nil))) pav_nil))))) (pw_or1D (pt_notD (pt_valD (pd_fn B__law_same hr (by rfl) (pad_cons (pd_mt0 MT_Watch_lengths K_Watch hr (pn 1)) (pav_cons (pn 10) pav_nil)))))))) (psd_one (psd_ret pv_bl)) psd_nil) (psd_cons (psd_if (pt_cmpV op_isA sd_is (pn 8) pv_non (nomark _)) (psd_one (psd_ret (pv_and (pv_cmp (op_neA (hu64 hu)) sd_ne (pv_ix (pv_ix (pn 5) pv_int) (pn 9)) (pv_ix (pv_ix (pn 5) pv_int) (pn 9)) (nomark _)) (pv_one (pv_cmp (op_neA (hu64 hu)) sd_ne (pv_ix (pv_ix (pn 5) pv_int) (pn 9)) (pv_ix (pv_ix (pn 5) pv_int) (pn 9)) (nomark _)))))) psd_nil) (psd_cons (psd_if (pt_cmpV (op_neA (hu64 hu)) sd_ne (pv_lc (own := [("some", 12)]) rfl hN (piv_seq (pv_sl (pn 5) (pov_some pv_int) (pov_some pv_int))) (by show blkC N__law_enough_right (defScope s__law_enough_right) _ _ = true; decide +kernel) (fun _ _ _ _ _ => (pgv_name hN (i := 12))) (fun _ _ _ _ _ => (ptsv_one (pt_notV (pt_valV (pv_fn B__law_same hr (by rfl) (pav_cons (pn 12) (pav_cons (pv_ix (pn 5) pv_int) pav_nil))))))) (fun _ _ _ _ _ => (pn 12))) (pv_lst pav_nil) (nomark _)) (psd_one (psd_ret pv_bl)) psd_nil) (psd_one (psd_ret (pv_or (pv_cmp (op_eqA (hu64 hu)) sd_eq (pn 8) pv_int (nomark _)) (pv_one (pv_cmp (op_neA (hu64 hu)) sd_ne (pv_ix (pv_ix (pn 5) pv_int) (pn 9)) (pv_ix (pv_ix (pn 5) pv_int) (pn 9)) (nomark _)))))))))))))))
abbrev s__law_life_right : Stmt := topS 69
theorem sc__law_life_right : FnScope N__law_life_right ["box", "roads", "many", "unit", "by_name"] (defScope s__law_life_right) := ⟨rfl, rfl, rfl, by decide +kernel, rfl, by decide +kernel, by decide +kernel⟩
theorem wk__law_life_right {S_Watch_init : DC} {S_Watch_lines : DC} {S_Watch_set_length : DC} {S_Watch_undo : DC} {S__law_as_anew : DC} {S__law_enough_right : DC} {S__law_mixed : DC} {S__law_take : DC} {S_read_watch : DC} {g_Watch_changes : Mu → List D → Option D} {g_Watch_lengths : Mu → List D → Option D} {g_Watch_map : Mu → List D → Option D} {g__law_bounded : Mu → List D → Option D} {g__law_lengths : Mu → List D → Option D} {g__law_map_now : Mu → List D → Option D} {g__law_same : Mu → List D → Option D} {C_Watch : Addr} (B__law_as_anew : FnB P w K mg base 9 "_law_as_anew" [] 4 S__law_as_anew) (B__law_bounded : FnB P w K mg base 1 "_law_bounded" [] 4 (pN g__law_bounded)) (B__law_enough_right : FnB P w K mg base 7 "_law_enough_right" [] 4 S__law_enough_right) (B__law_lengths : FnB P w K mg base 2 "_law_lengths" [] 2 (pN g__law_lengths)) (B__law_map_now : FnB P w K mg base 1 "_law_map_now" [] 2 (pN g__law_map_now)) (B__law_mixed : FnB P w K mg base 2 "_law_mixed" [] 2 S__law_mixed) (B__law_same : FnB P w K mg base 6 "_law_same" [] 2 (pN g__law_same)) (B__law_take : FnB P w K mg base 1 "_law_take" [] 2 S__law_take) (B_read_watch : FnB P w K mg base 9 "read_watch" [] 1 S_read_watch) (K_Watch : Cls K C_Watch) (MK_Watch : MkB P w K mg base 7 C_Watch "Watch" 2 S_Watch_init) (MK_Watch_roads : MkKB P w K mg base 7 C_Watch "Watch" ["roads"] 2 S_Watch_init) (MT_Watch_changes : MtB P w K mg base 1 C_Watch "changes" 1 (pN g_Watch_changes)) (MT_Watch_lengths : MtB P w K mg base 1 C_Watch "lengths" 1 (pN g_Watch_lengths)) (MT_Watch_lines : MtB P w K mg base 1 C_Watch "lines" 1 S_Watch_lines) (MT_Watch_map : MtB P w K mg base 2 C_Watch "map" 1 (pN g_Watch_map)) (MT_Watch_set_length : MtB P w K mg base 5 C_Watch "set_length" 3 S_Watch_set_length) (MT_Watch_set_length_tie_length : MtKB P w K mg base 5 C_Watch "set_length" ["tie", "length"] 3 S_Watch_set_length) (MT_Watch_undo : MtB P w K mg base 3 C_Watch "undo" 1 S_Watch_undo) (mz_len : mg "len" = none) (mz_list : mg "list" = none) (mz_max : mg "max" = none) (mz_range : mg "range" = none) (mz_repr : mg "repr" = none) {f : Addr} (cdv : Value) (A : Around) (outer : List Env) (s : Shared) (H : Hp) (E : XK) (hr : Room 9 (A.deeper (envOfC "_law_life_right" (defScope s__law_life_right) s.heap.objs.size f cdv))) (hG : A.guards = some []) :
    PSsD (cxOf CX0 P w K mg base N__law_life_right "_law_life_right" (defScope s__law_life_right) f cdv A outer s H E).nox Amb.none (defBody s__law_life_right) (bd__law_life_right S_Watch_init S_Watch_lines S_Watch_set_length S_Watch_undo S__law_as_anew S__law_enough_right S__law_mixed S__law_take S_read_watch g_Watch_changes g_Watch_lengths g_Watch_map g__law_bounded g__law_lengths g__law_map_now g__law_same C_Watch) := by
  have hN : N__law_life_right.Nodup := by decide +kernel
  have hu := hu_room hr
  exact (psd_cons (psd_par3 rfl hN (pad_cons (pd_if (pt_valV (pn 4)) (pd_makeK MK_Watch_roads hr (by rfl) (pkd_cons (pn 1) pkd_nil)) (pd_make MK_Watch hr (by rfl) (pav_cons (pn 1) pav_nil))) (pad_cons (pd_lcM (own := [("tie", 17)]) rfl hN (pid_seq (pv_ix (pn 1) pv_int)) (by show blkC N__law_life_right (defScope s__law_life_right) _ _ = true; decide +kernel) (fun _ _ _ _ _ => (pgd_name hN (i := 17))) (fun _ _ _ _ _ => ptsd_nil) (fun _ _ _ _ _ => (pv_ix (pn 17) pv_int))) (pad_cons (pd_lstM pav_nil) pav_nil))) (i := 9) (j := 10) (l := 11)) (psd_cons (psd_set hN (pd_lstM (pav_cons (pv_fn B__law_lengths hr (by rfl) (pav_cons (pv_ix (pn 1) pv_int) (pav_cons (pv_ix (pn 1) pv_int) pav_nil))) pav_nil)) (i := 5)) (psd_cons (psd_if (pt_notD (pt_valD (pd_fn B__law_as_anew hr (by rfl) (pav_cons (pn 9) (pav_cons (pn 1) (pav_cons (pn 10) (pav_cons (pv_ix (pn 5) pv_int) pav_nil))))))) (psd_one (psd_ret pv_bl)) psd_nil) (psd_cons (psd_for PassesOwn.never rfl (pid_rg1 (by rfl) mz_range (pav_cons (pn 2) pav_nil)) (pgd_name hN (i := 6)) (psd_gh (psd_cons (psd_par rfl hN (pad_cons (pd_fn B__law_take hr (by rfl) (pav_cons (pn 0) (pav_cons (pv_callB call_len sd_len (by rfl) mz_len (by rfl) (pav_cons (pn 10) pav_nil)) pav_nil))) (pad_cons (pd_fn B__law_take hr (by rfl) (pav_cons (pn 0) (pav_cons pv_int pav_nil))) pav_nil)) (i := 17) (j := 18)) (psd_cons (psd_set hN (pv_ix (pn 10) (pn 17)) (i := 12)) (psd_cons (psd_set hN (pv_if (pt_cmpV op_isNotA sd_isNot (pn 12) pv_non (nomark _)) (pn 12) (pv_op op_mulA sd_mul pv_int (pn 3))) (i := 13)) (psd_cons (psd_set hN (pd_ix (pd_lst (pad_cons pv_int (pad_cons (pv_op op_addA sd_add (pn 13) (pn 3)) (pad_cons (pv_callB (call_max2 rfl) sd_max2 (by rfl) mz_max (by rfl) (pav_cons pv_int (pav_cons (pv_op op_sub sd_I0 (pn 13) (pn 3)) pav_nil))) (pad_cons pv_non (pad_cons (pd_op op_mulA sd_mul (pn 3) (pd_fn B__law_take hr (by rfl) (pav_cons (pn 0) (pav_cons pv_int pav_nil)))) (pav_cons (pv_op op_addA sd_add (pn 13) pv_int) (pav_cons (pv_callB (call_max2 rfl) sd_max2 (by rfl) mz_max (by rfl) (pav_cons pv_int (pav_cons (pv_op op_sub sd_I0 (pn 13) pv_int) pav_nil))) (pav_cons (pn 13) pav_nil))))))))) (pn 18)) (i := 14)) (psd_cons (psd_asg (pn 14) (pgd_sub (pn 10) (pn 17))) (psd_cons (psd_if (pt_cmpD op_isNotA sd_isNot (pd_if (pt_valV (pn 4)) (pd_mtK MT_Watch_set_length_tie_length K_Watch hr (pn 9) (pkd_cons (pn 17) (pkd_cons (pn 14) pkd_nil))) (pd_mt MT_Watch_set_length K_Watch hr (pn 9) (pav_cons (pn 17) (pav_cons (pn 14) pav_nil)))) pv_non (nomark _)) (psd_one (psd_ret pv_bl)) psd_nil) (psd_cons (psd_drop (pd_app (pn 5) (pav_cons (pv_fn B__law_lengths hr (by rfl) (pav_cons (pv_ix (pn 1) pv_int) (pav_cons (pv_ix (pv_fn B__law_map_now hr (by rfl) (pav_cons (pn 1) (pav_cons (pn 10) pav_nil))) pv_int) pav_nil))) pav_nil))) (psd_cons (psd_set hN (pd_mt0 MT_Watch_lengths K_Watch hr (pn 9)) (i := 15)) (psd_cons (psd_drop (pd_app (pn 11) (pav_cons (pv_lst (pav_cons (pn 15) (pav_cons (pv_callB (cr_repr hG (hu64 hu)) sd_repr (by rfl) mz_repr (by rfl) (pav_cons (pv_ix (pn 5) (pv_neg pv_int)) pav_nil)) pav_nil))) pav_nil))) (psd_cons (psd_if (pw_ptV (pw_orV (pt_notV (pt_valV (pv_fn B__law_same hr (by rfl) (pav_cons (pn 15) (pav_cons (pv_ix (pn 5) (pv_neg pv_int)) pav_nil))))) (pw_or1V (pt_notV (pt_valV (pv_fn B__law_bounded hr (by rfl) (pav_cons (pv_ix (pn 5) (pv_neg pv_int)) (pav_cons (pn 15) (pav_cons (pn 12) (pav_cons (pn 14) pav_nil)))))))))) (psd_one (psd_ret pv_bl)) psd_nil) (psd_one (psd_if (pw_pt (pw_andD (pt_cmpV (op_eqA (hu64 hu)) sd_eq (pv_op op_modN sd_mod (pn 6) pv_int) pv_int (nomark _)) (pw_and1D (pw_pt (pw_orD (pt_notD (pt_valD (pd_fn B__law_as_anew hr (by rfl) (pav_cons (pn 9) (pav_cons (pn 1) (pav_cons (pn 10) (pav_cons (pv_ix (pn 5) (pv_neg pv_int)) pav_nil))))))) (pw_or1D (pt_notD (pt_valD (pd_fn B__law_enough_right hr (by rfl) (pav_cons (pn 0) (pav_cons (pn 9) (pav_cons (pn 1) (pav_cons (pn 10) pav_nil))))))))))))) (psd_one (psd_ret pv_bl)) psd_nil)))))))))))))) (psd_cons (psd_for PassesOwn.never rfl (pid_rg1 (by rfl) mz_range (pav_cons pv_int pav_nil)) (pgd_name hN (i := 7)) (psd_gh (psd_cons (psd_set hN (pd_make MK_Watch hr (by rfl) (pav_cons (pn 1) pav_nil)) (i := 16)) (psd_cons (psd_for PassesOwn.never rfl (pid_seq (pd_fn B__law_mixed hr (by rfl) (pav_cons (pn 0) (pav_cons (pv_listRg rfl (by rfl) mz_list (by rfl) mz_range (pv_callB call_len sd_len (by rfl) mz_len (by rfl) (pav_cons (pn 10) pav_nil))) pav_nil)))) (pgd_name hN (i := 17)) (psd_gh (psd_one (psd_if (pt_cmpD op_isNotA sd_isNot (pd_mt MT_Watch_set_length K_Watch hr (pn 16) (pav_cons (pn 17) (pav_cons (pv_ix (pn 10) (pn 17)) pav_nil))) pv_non (nomark _)) (psd_one (psd_ret pv_bl)) psd_nil)))) (psd_one (psd_if (pt_notD (pt_valD (pd_fn B__law_same hr (by rfl) (pad_cons (pd_mt0 MT_Watch_lengths K_Watch hr (pn 16)) (pav_cons (pv_ix (pn 5) (pv_neg pv_int)) pav_nil))))) (psd_one (psd_ret pv_bl)) psd_nil)))))) (psd_cons (psd_set hN (pd_fn B_read_watch hr (by rfl) (pad_cons (pd_mt0 MT_Watch_lines K_Watch hr (pn 9)) pav_nil)) (i := 8)) (psd_cons (psd_for PassesOwn.never rfl (pid_rg1 (by rfl) mz_range (pav_cons (pn 2) pav_nil)) (pgd_name hN (i := 6)) (psd_gh (psd_cons (psd_drop (pd_pop (pn 5))) (psd_one (psd_for PassesOwn.never rfl (pid_seq (pv_lst (pav_cons (pn 9) (pav_cons (pn 8) pav_nil)))) (pgd_name hN (i := 13)) (psd_gh (psd_one (psd_if (pw_pt (pw_orD (pt_cmpD op_isNotA sd_isNot (pd_mt0 MT_Watch_undo K_Watch hr (pn 13)) pv_non (nomark _)) (pw_or1D (pt_notD (pt_valD (pd_fn B__law_same hr (by rfl) (pad_cons (pd_mt0 MT_Watch_lengths K_Watch hr (pn 13)) (pav_cons (pv_ix (pn 5) (pv_neg pv_int)) pav_nil)))))))) (psd_one (psd_ret pv_bl)) psd_nil)))))))) (psd_cons (psd_if (pt_notD (pt_valD (pd_fn B__law_same hr (by rfl) (pad_cons (pd_lst (pad_cons (pd_mt0 MT_Watch_map K_Watch hr (pn 9)) (pad_cons (pd_mt0 MT_Watch_map K_Watch hr (pn 8)) (pad_cons (pd_mt0 MT_Watch_changes K_Watch hr (pn 9)) (pad_cons (pd_mt0 MT_Watch_changes K_Watch hr (pn 8)) pav_nil))))) (pav_cons (pv_lst (pav_cons (pn 1) (pav_cons (pn 1) (pav_cons (pv_lst pav_nil) (pav_cons (pv_lst pav_nil) pav_nil))))) pav_nil))))) (psd_one (psd_ret pv_bl)) psd_nil) (psd_one (psd_ret (pv_cmp (op_eqA (hu64 hu)) sd_eq (pv_lc (own := [("told", 15), ("text", 19)]) rfl hN (piv_seq (pn 11)) (by show blkC N__law_life_right (defScope s__law_life_right) _ _ = true; decide +kernel) (fun _ _ _ _ _ => (pgv_unl rfl (pgsv_cons (pgv_name hN (i := 15)) (pgsv_cons (pgv_name hN (i := 19)) pgsv_nil)))) (fun _ _ _ _ _ => (ptsv_one (pt_cmpV (op_neA (hu64 hu)) sd_ne (pv_callB (cr_repr hG (hu64 hu)) sd_repr (by rfl) mz_repr (by rfl) (pav_cons (pn 15) pav_nil)) (pn 19) (nomark _)))) (fun _ _ _ _ _ => pv_int)) (pv_lst pav_nil) (nomark _))))))))))))
abbrev s_law : Stmt := topS 70
theorem sc_law : FnScope N_law ["script"] (defScope s_law) := ⟨rfl, rfl, rfl, by decide +kernel, rfl, by decide +kernel, by decide +kernel⟩
theorem wk_law {S__law_box : DC} {S__law_life_right : DC} {S__law_long : DC} {S__law_roads : DC} {S__law_take : DC} {g__law_cell : Mu → List D → Option D}  (B__law_box : FnB P w K mg base 1 "_law_box" [] 1 S__law_box) (B__law_cell : FnB P w K mg base 1 "_law_cell" [] 2 (pN g__law_cell)) (B__law_life_right : FnBG P w K mg base 10 "_law_life_right" [] 5 S__law_life_right) (B__law_long : FnB P w K mg base 2 "_law_long" [] 1 S__law_long) (B__law_roads : FnB P w K mg base 3 "_law_roads" [] 3 S__law_roads) (B__law_take : FnB P w K mg base 1 "_law_take" [] 2 S__law_take) (mz_len : mg "len" = none) (mz_max : mg "max" = none) (mz_min : mg "min" = none) (mz_range : mg "range" = none) {f : Addr} (cdv : Value) (A : Around) (outer : List Env) (s : Shared) (H : Hp) (E : XK) (hr : Room 10 (A.deeper (envOfC "law" (defScope s_law) s.heap.objs.size f cdv))) (hG : A.guards = some []) :
    PSsD (cxOf CX0 P w K mg base N_law "law" (defScope s_law) f cdv A outer s H E).nox Amb.none (defBody s_law) (bd_law S__law_box S__law_life_right S__law_long S__law_roads S__law_take g__law_cell ) := by
  have hN : N_law.Nodup := by decide +kernel
  have hu := hu_room hr
  exact (psd_cons (psd_for PassesOwn.never rfl (pid_rg1 (by rfl) mz_range (pav_cons (pv_callB (call_max2 rfl) sd_max2 (by rfl) mz_max (by rfl) (pav_cons pv_int (pav_cons (pv_callB (call_min2 rfl) sd_min2 (by rfl) mz_min (by rfl) (pav_cons pv_int (pav_cons (pv_callB call_len sd_len (by rfl) mz_len (by rfl) (pav_cons (pn 0) pav_nil)) pav_nil))) pav_nil))) pav_nil)) (pgd_name hN (i := 1)) (psd_gh (psd_cons (psd_set hN (pd_fn B__law_box hr (by rfl) (pav_cons (pv_fn B__law_cell hr (by rfl) (pav_cons (pn 0) (pav_cons (pn 1) pav_nil))) pav_nil)) (i := 2)) (psd_cons (psd_par3 rfl hN (pad_cons (pd_cmp (op_eqA (hu64 hu)) sd_eq (pd_fn B__law_take hr (by rfl) (pav_cons (pn 2) (pav_cons pv_int pav_nil))) pv_int (nomark _)) (pad_cons (pd_cmp (op_eqA (hu64 hu)) sd_eq (pd_fn B__law_take hr (by rfl) (pav_cons (pn 2) (pav_cons pv_int pav_nil))) pv_int (nomark _)) (pad_cons (pd_cmp (op_eqA (hu64 hu)) sd_eq (pd_fn B__law_take hr (by rfl) (pav_cons (pn 2) (pav_cons pv_int pav_nil))) pv_int (nomark _)) pav_nil))) (i := 5) (j := 6) (l := 7)) (psd_cons (psd_set hN (pd_if (pt_valV (pn 6)) (pd_fn B__law_long hr (by rfl) (pav_cons (pn 2) pav_nil)) pv_int) (i := 3)) (psd_cons (psd_set hN (pd_fn B__law_roads hr (by rfl) (pav_cons (pn 2) (pav_cons (pv_and (pn 5) (pv_one (pv_cmp (op_eqA (hu64 hu)) sd_eq (pn 1) pv_int (nomark _)))) (pav_cons (pn 3) pav_nil)))) (i := 4)) (psd_one (psd_if (pt_notD (pt_valD (pd_fnG B__law_life_right hr hG (by rfl) (pad_cons (pn 2) (pad_cons (pn 4) (pad_cons (pd_if (pw_ptV (pw_andV (pt_valV (pn 5)) (pw_and1V (pt_cmpV (op_eqA (hu64 hu)) sd_eq (pn 1) pv_int (nomark _))))) pv_int (pd_ix (pv_lst (pav_cons pv_int (pav_cons pv_int (pav_cons pv_int pav_nil)))) (pd_fn B__law_take hr (by rfl) (pav_cons (pn 2) (pav_cons pv_int pav_nil))))) (pav_cons (pn 3) (pav_cons (pn 7) pav_nil)))))))) (psd_one (psd_ret pv_bl)) psd_nil)))))))) (psd_one (psd_ret pv_bl)))
end
end K60
end

section
set_option maxRecDepth 100000
namespace K60
open PySem PySem.Spec PyProof.Rows L2 DL
def d_is_integer : He.DefD := ⟨("is_integer", none), "is_integer", "is_integer", defArgs s_is_integer, defBody s_is_integer, defScope s_is_integer, [], []⟩
def d_is_count : He.DefD := ⟨("is_count", none), "is_count", "is_count", defArgs s_is_count, defBody s_is_count, defScope s_is_count, [], []⟩
def d_is_within : He.DefD := ⟨("is_within", none), "is_within", "is_within", defArgs s_is_within, defBody s_is_within, defScope s_is_within, [], []⟩
def d_is_index : He.DefD := ⟨("is_index", none), "is_index", "is_index", defArgs s_is_index, defBody s_is_index, defScope s_is_index, [], []⟩
def d_is_short : He.DefD := ⟨("is_short", none), "is_short", "is_short", defArgs s_is_short, defBody s_is_short, defScope s_is_short, [], []⟩
def d_is_list : He.DefD := ⟨("is_list", none), "is_list", "is_list", defArgs s_is_list, defBody s_is_list, defScope s_is_list, [], []⟩
def d_is_tuple : He.DefD := ⟨("is_tuple", none), "is_tuple", "is_tuple", defArgs s_is_tuple, defBody s_is_tuple, defScope s_is_tuple, [], []⟩
def d_in_order : He.DefD := ⟨("in_order", none), "in_order", "in_order", defArgs s_in_order, defBody s_in_order, defScope s_in_order, [], []⟩
def d_count_in : He.DefD := ⟨("count_in", none), "count_in", "count_in", defArgs s_count_in, defBody s_count_in, defScope s_count_in, [.int 1000], []⟩
def d_plus : He.DefD := ⟨("plus", none), "plus", "plus", defArgs s_plus, defBody s_plus, defScope s_plus, [], []⟩
def d_is_less : He.DefD := ⟨("is_less", none), "is_less", "is_less", defArgs s_is_less, defBody s_is_less, defScope s_is_less, [], []⟩
def d_least : He.DefD := ⟨("least", none), "least", "least", defArgs s_least, defBody s_least, defScope s_least, [], []⟩
def d_is_tie : He.DefD := ⟨("is_tie", none), "is_tie", "is_tie", defArgs s_is_tie, defBody s_is_tie, defScope s_is_tie, [], []⟩
def d_is_map : He.DefD := ⟨("is_map", none), "is_map", "is_map", defArgs s_is_map, defBody s_is_map, defScope s_is_map, [], []⟩
def d_check_map : He.DefD := ⟨("check_map", none), "check_map", "check_map", defArgs s_check_map, defBody s_check_map, defScope s_check_map, [], []⟩
def d_map_of : He.DefD := ⟨("map_of", none), "map_of", "map_of", defArgs s_map_of, defBody s_map_of, defScope s_map_of, [], []⟩
def d_write_map : He.DefD := ⟨("write_map", none), "write_map", "write_map", defArgs s_write_map, defBody s_write_map, defScope s_write_map, [], []⟩
def d_tie_in : He.DefD := ⟨("tie_in", none), "tie_in", "tie_in", defArgs s_tie_in, defBody s_tie_in, defScope s_tie_in, [], []⟩
def d_read_map : He.DefD := ⟨("read_map", none), "read_map", "read_map", defArgs s_read_map, defBody s_read_map, defScope s_read_map, [], []⟩
def d_ties_from : He.DefD := ⟨("ties_from", none), "ties_from", "ties_from", defArgs s_ties_from, defBody s_ties_from, defScope s_ties_from, [], []⟩
def d_search : He.DefD := ⟨("search", none), "search", "search", defArgs s_search, defBody s_search, defScope s_search, [], []⟩
def d_lengths_from : He.DefD := ⟨("lengths_from", none), "lengths_from", "lengths_from", defArgs s_lengths_from, defBody s_lengths_from, defScope s_lengths_from, [], []⟩
def d_lengths_of : He.DefD := ⟨("lengths_of", none), "lengths_of", "lengths_of", defArgs s_lengths_of, defBody s_lengths_of, defScope s_lengths_of, [], []⟩
def d_lengths : He.DefD := ⟨("lengths", none), "lengths", "lengths", defArgs s_lengths, defBody s_lengths, defScope s_lengths, [], []⟩
def d_present : He.DefD := ⟨("present", none), "present", "present", defArgs s_present, defBody s_present, defScope s_present, [], []⟩
def d_with_length : He.DefD := ⟨("with_length", none), "with_length", "with_length", defArgs s_with_length, defBody s_with_length, defScope s_with_length, [], []⟩
def d_shortened : He.DefD := ⟨("shortened", none), "shortened", "shortened", defArgs s_shortened, defBody s_shortened, defScope s_shortened, [], []⟩
def d_lengthened : He.DefD := ⟨("lengthened", none), "lengthened", "lengthened", defArgs s_lengthened, defBody s_lengthened, defScope s_lengthened, [], []⟩
def d_Watch_init : He.DefD := ⟨("Watch", some "__init__"), "__init__", "Watch.__init__", defArgs s_Watch_init, defBody s_Watch_init, defScope s_Watch_init, [], []⟩
def d_Watch__check_tie : He.DefD := ⟨("Watch", some "_check_tie"), "_check_tie", "Watch._check_tie", defArgs s_Watch__check_tie, defBody s_Watch__check_tie, defScope s_Watch__check_tie, [], []⟩
def d_Watch_lengths : He.DefD := ⟨("Watch", some "lengths"), "lengths", "Watch.lengths", defArgs s_Watch_lengths, defBody s_Watch_lengths, defScope s_Watch_lengths, [], []⟩
def d_Watch_map : He.DefD := ⟨("Watch", some "map"), "map", "Watch.map", defArgs s_Watch_map, defBody s_Watch_map, defScope s_Watch_map, [], []⟩
def d_Watch_set_length : He.DefD := ⟨("Watch", some "set_length"), "set_length", "Watch.set_length", defArgs s_Watch_set_length, defBody s_Watch_set_length, defScope s_Watch_set_length, [], []⟩
def d_Watch_changes : He.DefD := ⟨("Watch", some "changes"), "changes", "Watch.changes", defArgs s_Watch_changes, defBody s_Watch_changes, defScope s_Watch_changes, [], []⟩
def d_Watch_undo : He.DefD := ⟨("Watch", some "undo"), "undo", "Watch.undo", defArgs s_Watch_undo, defBody s_Watch_undo, defScope s_Watch_undo, [], []⟩
def d_Watch_enough : He.DefD := ⟨("Watch", some "enough"), "enough", "Watch.enough", defArgs s_Watch_enough, defBody s_Watch_enough, defScope s_Watch_enough, [], []⟩
def d_Watch_lines : He.DefD := ⟨("Watch", some "lines"), "lines", "Watch.lines", defArgs s_Watch_lines, defBody s_Watch_lines, defScope s_Watch_lines, [], []⟩
def d_change_in : He.DefD := ⟨("change_in", none), "change_in", "change_in", defArgs s_change_in, defBody s_change_in, defScope s_change_in, [], []⟩
def d_read_watch : He.DefD := ⟨("read_watch", none), "read_watch", "read_watch", defArgs s_read_watch, defBody s_read_watch, defScope s_read_watch, [], []⟩
def d__law_cell : He.DefD := ⟨("_law_cell", none), "_law_cell", "_law_cell", defArgs s__law_cell, defBody s__law_cell, defScope s__law_cell, [], []⟩
def d__law_box : He.DefD := ⟨("_law_box", none), "_law_box", "_law_box", defArgs s__law_box, defBody s__law_box, defScope s__law_box, [], []⟩
def d__law_take : He.DefD := ⟨("_law_take", none), "_law_take", "_law_take", defArgs s__law_take, defBody s__law_take, defScope s__law_take, [], []⟩
def d__law_mixed : He.DefD := ⟨("_law_mixed", none), "_law_mixed", "_law_mixed", defArgs s__law_mixed, defBody s__law_mixed, defScope s__law_mixed, [], []⟩
def d__law_same : He.DefD := ⟨("_law_same", none), "_law_same", "_law_same", defArgs s__law_same, defBody s__law_same, defScope s__law_same, [], []⟩
def d__law_long : He.DefD := ⟨("_law_long", none), "_law_long", "_law_long", defArgs s__law_long, defBody s__law_long, defScope s__law_long, [], []⟩
def d__law_two : He.DefD := ⟨("_law_two", none), "_law_two", "_law_two", defArgs s__law_two, defBody s__law_two, defScope s__law_two, [], []⟩
def d__law_roads : He.DefD := ⟨("_law_roads", none), "_law_roads", "_law_roads", defArgs s__law_roads, defBody s__law_roads, defScope s__law_roads, [], []⟩
def d__law_row : He.DefD := ⟨("_law_row", none), "_law_row", "_law_row", defArgs s__law_row, defBody s__law_row, defScope s__law_row, [], []⟩
def d__law_lengths : He.DefD := ⟨("_law_lengths", none), "_law_lengths", "_law_lengths", defArgs s__law_lengths, defBody s__law_lengths, defScope s__law_lengths, [], []⟩
def d__law_map_now : He.DefD := ⟨("_law_map_now", none), "_law_map_now", "_law_map_now", defArgs s__law_map_now, defBody s__law_map_now, defScope s__law_map_now, [], []⟩
def d__law_bounded : He.DefD := ⟨("_law_bounded", none), "_law_bounded", "_law_bounded", defArgs s__law_bounded, defBody s__law_bounded, defScope s__law_bounded, [], []⟩
def d__law_as_anew : He.DefD := ⟨("_law_as_anew", none), "_law_as_anew", "_law_as_anew", defArgs s__law_as_anew, defBody s__law_as_anew, defScope s__law_as_anew, [], []⟩
def d__law_enough_right : He.DefD := ⟨("_law_enough_right", none), "_law_enough_right", "_law_enough_right", defArgs s__law_enough_right, defBody s__law_enough_right, defScope s__law_enough_right, [], []⟩
def d__law_life_right : He.DefD := ⟨("_law_life_right", none), "_law_life_right", "_law_life_right", defArgs s__law_life_right, defBody s__law_life_right, defScope s__law_life_right, [], []⟩
def d_law : He.DefD := ⟨("law", none), "law", "law", defArgs s_law, defBody s_law, defScope s_law, [], []⟩
def fn0 : List He.DefD := [d_is_integer, d_is_count, d_is_within, d_is_index, d_is_short, d_is_list, d_is_tuple, d_in_order, d_count_in, d_plus, d_is_less, d_least, d_is_tie, d_is_map, d_check_map, d_map_of, d_write_map, d_tie_in, d_read_map, d_ties_from, d_search, d_lengths_from, d_lengths_of, d_lengths, d_present, d_with_length, d_shortened, d_lengthened, d_Watch_init, d_Watch__check_tie]
def fn1 : List He.DefD := [d_Watch_lengths, d_Watch_map, d_Watch_set_length, d_Watch_changes, d_Watch_undo, d_Watch_enough, d_Watch_lines, d_change_in, d_read_watch, d__law_cell, d__law_box, d__law_take, d__law_mixed, d__law_same, d__law_long, d__law_two, d__law_roads, d__law_row, d__law_lengths, d__law_map_now, d__law_bounded, d__law_as_anew, d__law_enough_right, d__law_life_right, d_law]
def fn : List He.DefD := fn0 ++ fn1
def fa0 : List He.Fa := [.free "bool", .free "int", .free "isinstance", .glo "is_integer", .glo "is_count", .glo "is_within", .glo "is_index", .int "BEYOND_DIGITS" (10 ^ 1000), .glo "is_short", .free "list", .free "tuple", .glo "is_list", .free "len", .glo "is_tuple", .free "all", .free "range", .glo "in_order", .str "DIGITS" "0123456789", .glo "count_in", .glo "plus", .glo "is_less", .glo "least", .glo "is_tie", .int "MOST_PLACES" 20, .int "MOST_TIES" 120, .glo "is_map", .glo "check_map", .free "sorted", .glo "map_of", .glo "write_map"]
def fa1 : List He.Fa := [.int "PLACE_DIGITS" 2, .glo "tie_in", .free "str", .glo "read_map", .free "enumerate", .glo "ties_from", .glo "search", .glo "lengths_from", .glo "lengths_of", .glo "lengths", .glo "present", .glo "with_length", .free "zip", .glo "shortened", .glo "lengthened", .cls "Watch", .noat "Watch" "_done", .noat "Watch" "_head", .noat "Watch" "_many", .noat "Watch" "_table", .noat "Watch" "_ties", .mkr "Watch", .glo "Watch", .meth "Watch" "_check_tie", .meth "Watch" "lengths", .meth "Watch" "map", .free "sum", .meth "Watch" "set_length", .meth "Watch" "changes", .meth "Watch" "undo"]
def fa2 : List He.Fa := [.meth "Watch" "enough", .str "HEAD" "watch", .str "LENGTH" "length", .str "OUT" "out", .meth "Watch" "lines", .int "TIE_DIGITS" 3, .glo "change_in", .glo "MapError", .glo "read_watch", .glo "_law_cell", .free "abs", .glo "_law_box", .glo "_law_take", .glo "_law_mixed", .free "dict", .glo "_law_same", .glo "_law_long", .glo "_law_two", .free "max", .glo "_law_roads", .glo "_law_row", .glo "_law_lengths", .glo "_law_map_now", .glo "_law_bounded", .glo "_law_as_anew", .glo "_law_enough_right", .free "repr", .glo "_law_life_right", .free "min", .glo "law"]
def fa : List He.Fa := fa0 ++ fa1 ++ fa2
theorem b_B_is_integer {P : Program} {w : World} {K : PySem.W.Frag} {h base : Heap} {mg : Str → Option Value} (X : K.In h) (G : h.Ns mainGlobals mg) (c : He.SaysD fa fn K) : FnB P w K mg base 1 "is_integer" [] 1 (pN G_is_integer) := by
  obtain ⟨fd, F0⟩ := c.def_ 0 (d := d_is_integer) rfl
  have F : FnP K "is_integer" "is_integer" s_is_integer (He.fAd K ("is_integer", none)) fd := F0
  have hw : WkB P w K mg base N_is_integer "is_integer" s_is_integer 0 (He.fAd K ("is_integer", none)) (bd_is_integer  ) := fun cdv A outer s H E hr => wk_is_integer (mz_bool := (He.free_ok X G (c.fact 0 (f := .free "bool") rfl))) (mz_int := (He.free_ok X G (c.fact 1 (f := .free "int") rfl))) (mz_isinstance := (He.free_ok X G (c.fact 2 (f := .free "isinstance") rfl))) cdv A outer s H E hr
  have hs : Sem N_is_integer (bd_is_integer  ) (pN G_is_integer) := fun ds μ kont h => sem_pure pu_is_integer ds μ kont h
  exact B_of F sc_is_integer hw hs (He.glo_ok X G (c.fact 3 (f := .glo "is_integer") rfl)) (FunD.bindsN F fun _ _ _ _ _ _ us hl => match us, hl with | [_], _ => rfl)
theorem b_B_is_count {P : Program} {w : World} {K : PySem.W.Frag} {h base : Heap} {mg : Str → Option Value} (X : K.In h) (G : h.Ns mainGlobals mg) (c : He.SaysD fa fn K) : FnB P w K mg base 2 "is_count" [] 1 (pN G_is_count) := by
  obtain ⟨fd, F0⟩ := c.def_ 1 (d := d_is_count) rfl
  have F : FnP K "is_count" "is_count" s_is_count (He.fAd K ("is_count", none)) fd := F0
  have hw : WkB P w K mg base N_is_count "is_count" s_is_count 1 (He.fAd K ("is_count", none)) (bd_is_count G_is_integer ) := fun cdv A outer s H E hr => wk_is_count (B_is_integer := (b_B_is_integer X G c)) cdv A outer s H E hr
  have hs : Sem N_is_count (bd_is_count G_is_integer ) (pN G_is_count) := fun ds μ kont h => sem_pure pu_is_count ds μ kont h
  exact B_of F sc_is_count hw hs (He.glo_ok X G (c.fact 4 (f := .glo "is_count") rfl)) (FunD.bindsN F fun _ _ _ _ _ _ us hl => match us, hl with | [_], _ => rfl)
theorem b_B_is_within {P : Program} {w : World} {K : PySem.W.Frag} {h base : Heap} {mg : Str → Option Value} (X : K.In h) (G : h.Ns mainGlobals mg) (c : He.SaysD fa fn K) : FnB P w K mg base 2 "is_within" [] 3 (pN G_is_within) := by
  obtain ⟨fd, F0⟩ := c.def_ 2 (d := d_is_within) rfl
  have F : FnP K "is_within" "is_within" s_is_within (He.fAd K ("is_within", none)) fd := F0
  have hw : WkB P w K mg base N_is_within "is_within" s_is_within 1 (He.fAd K ("is_within", none)) (bd_is_within G_is_integer ) := fun cdv A outer s H E hr => wk_is_within (B_is_integer := (b_B_is_integer X G c)) cdv A outer s H E hr
  have hs : Sem N_is_within (bd_is_within G_is_integer ) (pN G_is_within) := fun ds μ kont h => sem_pure pu_is_within ds μ kont h
  exact B_of F sc_is_within hw hs (He.glo_ok X G (c.fact 5 (f := .glo "is_within") rfl)) (FunD.bindsN F fun _ _ _ _ _ _ us hl => match us, hl with | [_, _, _], _ => rfl)
theorem b_B_is_index {P : Program} {w : World} {K : PySem.W.Frag} {h base : Heap} {mg : Str → Option Value} (X : K.In h) (G : h.Ns mainGlobals mg) (c : He.SaysD fa fn K) : FnB P w K mg base 2 "is_index" [] 2 (pN G_is_index) := by
  obtain ⟨fd, F0⟩ := c.def_ 3 (d := d_is_index) rfl
  have F : FnP K "is_index" "is_index" s_is_index (He.fAd K ("is_index", none)) fd := F0
  have hw : WkB P w K mg base N_is_index "is_index" s_is_index 1 (He.fAd K ("is_index", none)) (bd_is_index G_is_integer ) := fun cdv A outer s H E hr => wk_is_index (B_is_integer := (b_B_is_integer X G c)) cdv A outer s H E hr
  have hs : Sem N_is_index (bd_is_index G_is_integer ) (pN G_is_index) := fun ds μ kont h => sem_pure pu_is_index ds μ kont h
  exact B_of F sc_is_index hw hs (He.glo_ok X G (c.fact 6 (f := .glo "is_index") rfl)) (FunD.bindsN F fun _ _ _ _ _ _ us hl => match us, hl with | [_, _], _ => rfl)
theorem b_B_is_short {P : Program} {w : World} {K : PySem.W.Frag} {h base : Heap} {mg : Str → Option Value} (X : K.In h) (G : h.Ns mainGlobals mg) (c : He.SaysD fa fn K) : FnB P w K mg base 1 "is_short" [] 1 (pN G_is_short) := by
  obtain ⟨fd, F0⟩ := c.def_ 4 (d := d_is_short) rfl
  have F : FnP K "is_short" "is_short" s_is_short (He.fAd K ("is_short", none)) fd := F0
  have hw : WkB P w K mg base N_is_short "is_short" s_is_short 0 (He.fAd K ("is_short", none)) (bd_is_short  ) := fun cdv A outer s H E hr => wk_is_short (c_BEYOND_DIGITS := (gl_int X G (c.fact 7 (f := .int "BEYOND_DIGITS" (10 ^ 1000)) rfl))) cdv A outer s H E hr
  have hs : Sem N_is_short (bd_is_short  ) (pN G_is_short) := fun ds μ kont h => sem_pure pu_is_short ds μ kont h
  exact B_of F sc_is_short hw hs (He.glo_ok X G (c.fact 8 (f := .glo "is_short") rfl)) (FunD.bindsN F fun _ _ _ _ _ _ us hl => match us, hl with | [_], _ => rfl)
theorem b_B_is_list {P : Program} {w : World} {K : PySem.W.Frag} {h base : Heap} {mg : Str → Option Value} (X : K.In h) (G : h.Ns mainGlobals mg) (c : He.SaysD fa fn K) : FnB P w K mg base 1 "is_list" [] 1 (pN G_is_list) := by
  obtain ⟨fd, F0⟩ := c.def_ 5 (d := d_is_list) rfl
  have F : FnP K "is_list" "is_list" s_is_list (He.fAd K ("is_list", none)) fd := F0
  have hw : WkB P w K mg base N_is_list "is_list" s_is_list 0 (He.fAd K ("is_list", none)) (bd_is_list  ) := fun cdv A outer s H E hr => wk_is_list (mz_isinstance := (He.free_ok X G (c.fact 2 (f := .free "isinstance") rfl))) (mz_list := (He.free_ok X G (c.fact 9 (f := .free "list") rfl))) (mz_tuple := (He.free_ok X G (c.fact 10 (f := .free "tuple") rfl))) cdv A outer s H E hr
  have hs : Sem N_is_list (bd_is_list  ) (pN G_is_list) := fun ds μ kont h => sem_pure pu_is_list ds μ kont h
  exact B_of F sc_is_list hw hs (He.glo_ok X G (c.fact 11 (f := .glo "is_list") rfl)) (FunD.bindsN F fun _ _ _ _ _ _ us hl => match us, hl with | [_], _ => rfl)
theorem b_B_is_tuple {P : Program} {w : World} {K : PySem.W.Frag} {h base : Heap} {mg : Str → Option Value} (X : K.In h) (G : h.Ns mainGlobals mg) (c : He.SaysD fa fn K) : FnB P w K mg base 1 "is_tuple" [] 2 (pN G_is_tuple) := by
  obtain ⟨fd, F0⟩ := c.def_ 6 (d := d_is_tuple) rfl
  have F : FnP K "is_tuple" "is_tuple" s_is_tuple (He.fAd K ("is_tuple", none)) fd := F0
  have hw : WkB P w K mg base N_is_tuple "is_tuple" s_is_tuple 0 (He.fAd K ("is_tuple", none)) (bd_is_tuple  ) := fun cdv A outer s H E hr => wk_is_tuple (mz_isinstance := (He.free_ok X G (c.fact 2 (f := .free "isinstance") rfl))) (mz_len := (He.free_ok X G (c.fact 12 (f := .free "len") rfl))) (mz_tuple := (He.free_ok X G (c.fact 10 (f := .free "tuple") rfl))) cdv A outer s H E hr
  have hs : Sem N_is_tuple (bd_is_tuple  ) (pN G_is_tuple) := fun ds μ kont h => sem_pure pu_is_tuple ds μ kont h
  exact B_of F sc_is_tuple hw hs (He.glo_ok X G (c.fact 13 (f := .glo "is_tuple") rfl)) (FunD.bindsN F fun _ _ _ _ _ _ us hl => match us, hl with | [_, _], _ => rfl)
theorem b_B_in_order {P : Program} {w : World} {K : PySem.W.Frag} {h base : Heap} {mg : Str → Option Value} (X : K.In h) (G : h.Ns mainGlobals mg) (c : He.SaysD fa fn K) : FnB P w K mg base 1 "in_order" [] 1 (pN G_in_order) := by
  obtain ⟨fd, F0⟩ := c.def_ 7 (d := d_in_order) rfl
  have F : FnP K "in_order" "in_order" s_in_order (He.fAd K ("in_order", none)) fd := F0
  have hw : WkB P w K mg base N_in_order "in_order" s_in_order 0 (He.fAd K ("in_order", none)) (bd_in_order  ) := fun cdv A outer s H E hr => wk_in_order (mz_all := (He.free_ok X G (c.fact 14 (f := .free "all") rfl))) (mz_len := (He.free_ok X G (c.fact 12 (f := .free "len") rfl))) (mz_range := (He.free_ok X G (c.fact 15 (f := .free "range") rfl))) cdv A outer s H E hr
  have hs : Sem N_in_order (bd_in_order  ) (pN G_in_order) := fun ds μ kont h => sem_pure pu_in_order ds μ kont h
  exact B_of F sc_in_order hw hs (He.glo_ok X G (c.fact 16 (f := .glo "in_order") rfl)) (FunD.bindsN F fun _ _ _ _ _ _ us hl => match us, hl with | [_], _ => rfl)
theorem b_B_count_in_1 {P : Program} {w : World} {K : PySem.W.Frag} {h base : Heap} {mg : Str → Option Value} (X : K.In h) (G : h.Ns mainGlobals mg) (c : He.SaysD fa fn K) : FnB P w K mg base 1 "count_in" [.int 1000] 2 (pN G_count_in) := by
  obtain ⟨fd, F0⟩ := c.def_ 8 (d := d_count_in) rfl
  have F : FunD K "count_in" "count_in" (defArgs s_count_in) (defBody s_count_in) (defScope s_count_in) [.int 1000] [] (He.fAd K ("count_in", none)) fd := F0
  have hw : WkB P w K mg base N_count_in "count_in" s_count_in 0 (He.fAd K ("count_in", none)) (bd_count_in  ) := fun cdv A outer s H E hr => wk_count_in (c_DIGITS := (gl_str X G (c.fact 17 (f := .str "DIGITS" "0123456789") rfl))) (mz_all := (He.free_ok X G (c.fact 14 (f := .free "all") rfl))) (mz_int := (He.free_ok X G (c.fact 1 (f := .free "int") rfl))) (mz_len := (He.free_ok X G (c.fact 12 (f := .free "len") rfl))) cdv A outer s H E hr
  obtain ⟨ds, hv, hb⟩ := FunD.binds1 F (ps := ["word", "most"]) 1 0 (by simp) rfl fun T kV doc pm an cdv ct us its h1 h2 => match us, its, h1, h2 with | [_], [_], _, _ => ⟨_, rfl, rfl⟩
  refine ⟨_, fd, _, _, ds, ok_fnD F sc_count_in (bd_count_in  ) hw (fun ds μ kont _ h => sem_pure pu_count_in ds μ kont h), He.glo_ok X G (c.fact 18 (f := .glo "count_in") rfl), F.kp, hb, hv, fun H => ?_⟩
  exact .cons .int .nil
theorem b_B_count_in_2 {P : Program} {w : World} {K : PySem.W.Frag} {h base : Heap} {mg : Str → Option Value} (X : K.In h) (G : h.Ns mainGlobals mg) (c : He.SaysD fa fn K) : FnB P w K mg base 1 "count_in" [] 2 (pN G_count_in) := by
  obtain ⟨fd, F0⟩ := c.def_ 8 (d := d_count_in) rfl
  have F : FunD K "count_in" "count_in" (defArgs s_count_in) (defBody s_count_in) (defScope s_count_in) [.int 1000] [] (He.fAd K ("count_in", none)) fd := F0
  have hw : WkB P w K mg base N_count_in "count_in" s_count_in 0 (He.fAd K ("count_in", none)) (bd_count_in  ) := fun cdv A outer s H E hr => wk_count_in (c_DIGITS := (gl_str X G (c.fact 17 (f := .str "DIGITS" "0123456789") rfl))) (mz_all := (He.free_ok X G (c.fact 14 (f := .free "all") rfl))) (mz_int := (He.free_ok X G (c.fact 1 (f := .free "int") rfl))) (mz_len := (He.free_ok X G (c.fact 12 (f := .free "len") rfl))) cdv A outer s H E hr
  obtain ⟨ds, hv, hb⟩ := FunD.binds1 F (ps := ["word", "most"]) 2 1 (by simp) rfl fun T kV doc pm an cdv ct us its h1 h2 => match us, its, h1, h2 with | [_, _], [_], _, _ => ⟨_, rfl, rfl⟩
  cases hv
  exact ⟨_, fd, _, _, [], ok_fnD F sc_count_in (bd_count_in  ) hw (fun ds μ kont _ h => sem_pure pu_count_in ds μ kont h), He.glo_ok X G (c.fact 18 (f := .glo "count_in") rfl), F.kp, hb, .nil, fun H => .nil⟩
theorem b_B_plus {P : Program} {w : World} {K : PySem.W.Frag} {h base : Heap} {mg : Str → Option Value} (X : K.In h) (G : h.Ns mainGlobals mg) (c : He.SaysD fa fn K) : FnB P w K mg base 1 "plus" [] 2 (pN G_plus) := by
  obtain ⟨fd, F0⟩ := c.def_ 9 (d := d_plus) rfl
  have F : FnP K "plus" "plus" s_plus (He.fAd K ("plus", none)) fd := F0
  have hw : WkB P w K mg base N_plus "plus" s_plus 0 (He.fAd K ("plus", none)) (bd_plus  ) := fun cdv A outer s H E hr => wk_plus  cdv A outer s H E hr
  have hs : Sem N_plus (bd_plus  ) (pN G_plus) := fun ds μ kont h => sem_pure pu_plus ds μ kont h
  exact B_of F sc_plus hw hs (He.glo_ok X G (c.fact 19 (f := .glo "plus") rfl)) (FunD.bindsN F fun _ _ _ _ _ _ us hl => match us, hl with | [_, _], _ => rfl)
theorem b_B_is_less {P : Program} {w : World} {K : PySem.W.Frag} {h base : Heap} {mg : Str → Option Value} (X : K.In h) (G : h.Ns mainGlobals mg) (c : He.SaysD fa fn K) : FnB P w K mg base 1 "is_less" [] 2 (pN G_is_less) := by
  obtain ⟨fd, F0⟩ := c.def_ 10 (d := d_is_less) rfl
  have F : FnP K "is_less" "is_less" s_is_less (He.fAd K ("is_less", none)) fd := F0
  have hw : WkB P w K mg base N_is_less "is_less" s_is_less 0 (He.fAd K ("is_less", none)) (bd_is_less  ) := fun cdv A outer s H E hr => wk_is_less  cdv A outer s H E hr
  have hs : Sem N_is_less (bd_is_less  ) (pN G_is_less) := fun ds μ kont h => sem_pure pu_is_less ds μ kont h
  exact B_of F sc_is_less hw hs (He.glo_ok X G (c.fact 20 (f := .glo "is_less") rfl)) (FunD.bindsN F fun _ _ _ _ _ _ us hl => match us, hl with | [_, _], _ => rfl)
theorem b_B_least {P : Program} {w : World} {K : PySem.W.Frag} {h base : Heap} {mg : Str → Option Value} (X : K.In h) (G : h.Ns mainGlobals mg) (c : He.SaysD fa fn K) : FnB P w K mg base 2 "least" [] 2 (pN G_least) := by
  obtain ⟨fd, F0⟩ := c.def_ 11 (d := d_least) rfl
  have F : FnP K "least" "least" s_least (He.fAd K ("least", none)) fd := F0
  have hw : WkB P w K mg base N_least "least" s_least 1 (He.fAd K ("least", none)) (bd_least G_is_less ) := fun cdv A outer s H E hr => wk_least (B_is_less := (b_B_is_less X G c)) cdv A outer s H E hr
  have hs : Sem N_least (bd_least G_is_less ) (pN G_least) := fun ds μ kont h => sem_pure pu_least ds μ kont h
  exact B_of F sc_least hw hs (He.glo_ok X G (c.fact 21 (f := .glo "least") rfl)) (FunD.bindsN F fun _ _ _ _ _ _ us hl => match us, hl with | [_, _], _ => rfl)
theorem b_B_is_tie {P : Program} {w : World} {K : PySem.W.Frag} {h base : Heap} {mg : Str → Option Value} (X : K.In h) (G : h.Ns mainGlobals mg) (c : He.SaysD fa fn K) : FnB P w K mg base 3 "is_tie" [] 2 (pN G_is_tie) := by
  obtain ⟨fd, F0⟩ := c.def_ 12 (d := d_is_tie) rfl
  have F : FnP K "is_tie" "is_tie" s_is_tie (He.fAd K ("is_tie", none)) fd := F0
  have hw : WkB P w K mg base N_is_tie "is_tie" s_is_tie 2 (He.fAd K ("is_tie", none)) (bd_is_tie G_is_count G_is_index G_is_tuple ) := fun cdv A outer s H E hr => wk_is_tie (B_is_count := (b_B_is_count X G c)) (B_is_index := (b_B_is_index X G c)) (B_is_tuple := (b_B_is_tuple X G c)) cdv A outer s H E hr
  have hs : Sem N_is_tie (bd_is_tie G_is_count G_is_index G_is_tuple ) (pN G_is_tie) := fun ds μ kont h => sem_pure pu_is_tie ds μ kont h
  exact B_of F sc_is_tie hw hs (He.glo_ok X G (c.fact 22 (f := .glo "is_tie") rfl)) (FunD.bindsN F fun _ _ _ _ _ _ us hl => match us, hl with | [_, _], _ => rfl)
theorem b_B_is_map {P : Program} {w : World} {K : PySem.W.Frag} {h base : Heap} {mg : Str → Option Value} (X : K.In h) (G : h.Ns mainGlobals mg) (c : He.SaysD fa fn K) : FnB P w K mg base 4 "is_map" [] 1 (pN G_is_map) := by
  obtain ⟨fd, F0⟩ := c.def_ 13 (d := d_is_map) rfl
  have F : FnP K "is_map" "is_map" s_is_map (He.fAd K ("is_map", none)) fd := F0
  have hw : WkB P w K mg base N_is_map "is_map" s_is_map 3 (He.fAd K ("is_map", none)) (bd_is_map G_in_order G_is_tie G_is_tuple G_is_within ) := fun cdv A outer s H E hr => wk_is_map (B_in_order := (b_B_in_order X G c)) (B_is_tie := (b_B_is_tie X G c)) (B_is_tuple := (b_B_is_tuple X G c)) (B_is_within := (b_B_is_within X G c)) (c_MOST_PLACES := (gl_int X G (c.fact 23 (f := .int "MOST_PLACES" 20) rfl))) (c_MOST_TIES := (gl_int X G (c.fact 24 (f := .int "MOST_TIES" 120) rfl))) (mz_all := (He.free_ok X G (c.fact 14 (f := .free "all") rfl))) (mz_isinstance := (He.free_ok X G (c.fact 2 (f := .free "isinstance") rfl))) (mz_len := (He.free_ok X G (c.fact 12 (f := .free "len") rfl))) (mz_tuple := (He.free_ok X G (c.fact 10 (f := .free "tuple") rfl))) cdv A outer s H E hr
  have hs : Sem N_is_map (bd_is_map G_in_order G_is_tie G_is_tuple G_is_within ) (pN G_is_map) := fun ds μ kont h => sem_pure pu_is_map ds μ kont h
  exact B_of F sc_is_map hw hs (He.glo_ok X G (c.fact 25 (f := .glo "is_map") rfl)) (FunD.bindsN F fun _ _ _ _ _ _ us hl => match us, hl with | [_], _ => rfl)
theorem b_B_check_map {P : Program} {w : World} {K : PySem.W.Frag} {h base : Heap} {mg : Str → Option Value} (X : K.In h) (G : h.Ns mainGlobals mg) (c : He.SaysD fa fn K) : FnB P w K mg base 5 "check_map" [] 1 (pN G_check_map) := by
  obtain ⟨fd, F0⟩ := c.def_ 14 (d := d_check_map) rfl
  have F : FnP K "check_map" "check_map" s_check_map (He.fAd K ("check_map", none)) fd := F0
  have hw : WkB P w K mg base N_check_map "check_map" s_check_map 4 (He.fAd K ("check_map", none)) (bd_check_map G_is_map ) := fun cdv A outer s H E hr => wk_check_map (B_is_map := (b_B_is_map X G c)) cdv A outer s H E hr
  have hs : Sem N_check_map (bd_check_map G_is_map ) (pN G_check_map) := fun ds μ kont h => sem_pure pu_check_map ds μ kont h
  exact B_of F sc_check_map hw hs (He.glo_ok X G (c.fact 26 (f := .glo "check_map") rfl)) (FunD.bindsN F fun _ _ _ _ _ _ us hl => match us, hl with | [_], _ => rfl)
theorem b_B_map_of {P : Program} {w : World} {K : PySem.W.Frag} {h base : Heap} {mg : Str → Option Value} (X : K.In h) (G : h.Ns mainGlobals mg) (c : He.SaysD fa fn K) : FnB P w K mg base 1 "map_of" [] 2 (pN G_map_of) := by
  obtain ⟨fd, F0⟩ := c.def_ 15 (d := d_map_of) rfl
  have F : FnP K "map_of" "map_of" s_map_of (He.fAd K ("map_of", none)) fd := F0
  have hw : WkB P w K mg base N_map_of "map_of" s_map_of 0 (He.fAd K ("map_of", none)) (bd_map_of  ) := fun cdv A outer s H E hr => wk_map_of (mz_sorted := (He.free_ok X G (c.fact 27 (f := .free "sorted") rfl))) (mz_tuple := (He.free_ok X G (c.fact 10 (f := .free "tuple") rfl))) cdv A outer s H E hr
  have hs : Sem N_map_of (bd_map_of  ) (pN G_map_of) := fun ds μ kont h => sem_pure pu_map_of ds μ kont h
  exact B_of F sc_map_of hw hs (He.glo_ok X G (c.fact 28 (f := .glo "map_of") rfl)) (FunD.bindsN F fun _ _ _ _ _ _ us hl => match us, hl with | [_, _], _ => rfl)
theorem b_B_write_map {P : Program} {w : World} {K : PySem.W.Frag} {h base : Heap} {mg : Str → Option Value} (X : K.In h) (G : h.Ns mainGlobals mg) (c : He.SaysD fa fn K) : FnB P w K mg base 6 "write_map" [] 1 (pN G_write_map) := by
  obtain ⟨fd, F0⟩ := c.def_ 16 (d := d_write_map) rfl
  have F : FnP K "write_map" "write_map" s_write_map (He.fAd K ("write_map", none)) fd := F0
  have hw : WkB P w K mg base N_write_map "write_map" s_write_map 5 (He.fAd K ("write_map", none)) (bd_write_map G_check_map G_is_short ) := fun cdv A outer s H E hr => wk_write_map (B_check_map := (b_B_check_map X G c)) (B_is_short := (b_B_is_short X G c)) (mz_all := (He.free_ok X G (c.fact 14 (f := .free "all") rfl))) cdv A outer s H E hr
  have hs : Sem N_write_map (bd_write_map G_check_map G_is_short ) (pN G_write_map) := fun ds μ kont h => sem_pure pu_write_map ds μ kont h
  exact B_of F sc_write_map hw hs (He.glo_ok X G (c.fact 29 (f := .glo "write_map") rfl)) (FunD.bindsN F fun _ _ _ _ _ _ us hl => match us, hl with | [_], _ => rfl)
theorem b_B_tie_in {P : Program} {w : World} {K : PySem.W.Frag} {h base : Heap} {mg : Str → Option Value} (X : K.In h) (G : h.Ns mainGlobals mg) (c : He.SaysD fa fn K) : FnB P w K mg base 2 "tie_in" [] 1 (pN G_tie_in) := by
  obtain ⟨fd, F0⟩ := c.def_ 17 (d := d_tie_in) rfl
  have F : FnP K "tie_in" "tie_in" s_tie_in (He.fAd K ("tie_in", none)) fd := F0
  have hw : WkB P w K mg base N_tie_in "tie_in" s_tie_in 1 (He.fAd K ("tie_in", none)) (bd_tie_in G_count_in ) := fun cdv A outer s H E hr => wk_tie_in (B_count_in_1 := (b_B_count_in_1 X G c)) (B_count_in_2 := (b_B_count_in_2 X G c)) (c_PLACE_DIGITS := (gl_int X G (c.fact 30 (f := .int "PLACE_DIGITS" 2) rfl))) (mz_len := (He.free_ok X G (c.fact 12 (f := .free "len") rfl))) cdv A outer s H E hr
  have hs : Sem N_tie_in (bd_tie_in G_count_in ) (pN G_tie_in) := fun ds μ kont h => sem_pure pu_tie_in ds μ kont h
  exact B_of F sc_tie_in hw hs (He.glo_ok X G (c.fact 31 (f := .glo "tie_in") rfl)) (FunD.bindsN F fun _ _ _ _ _ _ us hl => match us, hl with | [_], _ => rfl)
theorem b_B_read_map {P : Program} {w : World} {K : PySem.W.Frag} {h base : Heap} {mg : Str → Option Value} (X : K.In h) (G : h.Ns mainGlobals mg) (c : He.SaysD fa fn K) : FnB P w K mg base 5 "read_map" [] 1 (pN G_read_map) := by
  obtain ⟨fd, F0⟩ := c.def_ 18 (d := d_read_map) rfl
  have F : FnP K "read_map" "read_map" s_read_map (He.fAd K ("read_map", none)) fd := F0
  have hw : WkB P w K mg base N_read_map "read_map" s_read_map 4 (He.fAd K ("read_map", none)) (bd_read_map G_count_in G_is_map G_map_of G_tie_in ) := fun cdv A outer s H E hr => wk_read_map (B_count_in_2 := (b_B_count_in_2 X G c)) (B_is_map := (b_B_is_map X G c)) (B_map_of := (b_B_map_of X G c)) (B_tie_in := (b_B_tie_in X G c)) (c_PLACE_DIGITS := (gl_int X G (c.fact 30 (f := .int "PLACE_DIGITS" 2) rfl))) (mz_isinstance := (He.free_ok X G (c.fact 2 (f := .free "isinstance") rfl))) (mz_len := (He.free_ok X G (c.fact 12 (f := .free "len") rfl))) (mz_str := (He.free_ok X G (c.fact 32 (f := .free "str") rfl))) cdv A outer s H E hr
  have hs : Sem N_read_map (bd_read_map G_count_in G_is_map G_map_of G_tie_in ) (pN G_read_map) := fun ds μ kont h => sem_pure pu_read_map ds μ kont h
  exact B_of F sc_read_map hw hs (He.glo_ok X G (c.fact 33 (f := .glo "read_map") rfl)) (FunD.bindsN F fun _ _ _ _ _ _ us hl => match us, hl with | [_], _ => rfl)
theorem b_B_ties_from {P : Program} {w : World} {K : PySem.W.Frag} {h base : Heap} {mg : Str → Option Value} (X : K.In h) (G : h.Ns mainGlobals mg) (c : He.SaysD fa fn K) : FnB P w K mg base 1 "ties_from" [] 2 S_ties_from := by
  obtain ⟨fd, F0⟩ := c.def_ 19 (d := d_ties_from) rfl
  have F : FnP K "ties_from" "ties_from" s_ties_from (He.fAd K ("ties_from", none)) fd := F0
  have hw : WkB P w K mg base N_ties_from "ties_from" s_ties_from 0 (He.fAd K ("ties_from", none)) (bd_ties_from  ) := fun cdv A outer s H E hr => wk_ties_from (mz_enumerate := (He.free_ok X G (c.fact 34 (f := .free "enumerate") rfl))) (mz_range := (He.free_ok X G (c.fact 15 (f := .free "range") rfl))) cdv A outer s H E hr
  have hs : Sem N_ties_from (bd_ties_from  ) S_ties_from := fun ds μ kont h => sem_ties_from ds μ kont h
  exact B_of F sc_ties_from hw hs (He.glo_ok X G (c.fact 35 (f := .glo "ties_from") rfl)) (FunD.bindsN F fun _ _ _ _ _ _ us hl => match us, hl with | [_, _], _ => rfl)
theorem b_B_search {P : Program} {w : World} {K : PySem.W.Frag} {h base : Heap} {mg : Str → Option Value} (X : K.In h) (G : h.Ns mainGlobals mg) (c : He.SaysD fa fn K) : FnB P w K mg base 2 "search" [] 3 S_search := by
  obtain ⟨fd, F0⟩ := c.def_ 20 (d := d_search) rfl
  have F : FnP K "search" "search" s_search (He.fAd K ("search", none)) fd := F0
  have hw : WkB P w K mg base N_search "search" s_search 1 (He.fAd K ("search", none)) (bd_search S_ties_from G_is_less ) := fun cdv A outer s H E hr => wk_search (B_is_less := (b_B_is_less X G c)) (B_ties_from := (b_B_ties_from X G c)) (mz_list := (He.free_ok X G (c.fact 9 (f := .free "list") rfl))) (mz_range := (He.free_ok X G (c.fact 15 (f := .free "range") rfl))) cdv A outer s H E hr
  have hs : Sem N_search (bd_search S_ties_from G_is_less ) S_search := fun ds μ kont h => sem_search ds μ kont h
  exact B_of F sc_search hw hs (He.glo_ok X G (c.fact 36 (f := .glo "search") rfl)) (FunD.bindsN F fun _ _ _ _ _ _ us hl => match us, hl with | [_, _, _], _ => rfl)
theorem b_B_lengths_from {P : Program} {w : World} {K : PySem.W.Frag} {h base : Heap} {mg : Str → Option Value} (X : K.In h) (G : h.Ns mainGlobals mg) (c : He.SaysD fa fn K) : FnB P w K mg base 3 "lengths_from" [] 3 (pN G_lengths_from) := by
  obtain ⟨fd, F0⟩ := c.def_ 21 (d := d_lengths_from) rfl
  have F : FnP K "lengths_from" "lengths_from" s_lengths_from (He.fAd K ("lengths_from", none)) fd := F0
  have hw : WkB P w K mg base N_lengths_from "lengths_from" s_lengths_from 2 (He.fAd K ("lengths_from", none)) (bd_lengths_from S_search ) := fun cdv A outer s H E hr => wk_lengths_from (B_search := (b_B_search X G c)) cdv A outer s H E hr
  have hs : Sem N_lengths_from (bd_lengths_from S_search ) (pN G_lengths_from) := fun ds μ kont h => sem_lengths_from ds μ kont h
  exact B_of F sc_lengths_from hw hs (He.glo_ok X G (c.fact 37 (f := .glo "lengths_from") rfl)) (FunD.bindsN F fun _ _ _ _ _ _ us hl => match us, hl with | [_, _, _], _ => rfl)
theorem b_B_lengths_of {P : Program} {w : World} {K : PySem.W.Frag} {h base : Heap} {mg : Str → Option Value} (X : K.In h) (G : h.Ns mainGlobals mg) (c : He.SaysD fa fn K) : FnB P w K mg base 4 "lengths_of" [] 1 (pN G_lengths_of) := by
  obtain ⟨fd, F0⟩ := c.def_ 22 (d := d_lengths_of) rfl
  have F : FnP K "lengths_of" "lengths_of" s_lengths_of (He.fAd K ("lengths_of", none)) fd := F0
  have hw : WkB P w K mg base N_lengths_of "lengths_of" s_lengths_of 3 (He.fAd K ("lengths_of", none)) (bd_lengths_of G_lengths_from ) := fun cdv A outer s H E hr => wk_lengths_of (B_lengths_from := (b_B_lengths_from X G c)) (mz_range := (He.free_ok X G (c.fact 15 (f := .free "range") rfl))) (mz_tuple := (He.free_ok X G (c.fact 10 (f := .free "tuple") rfl))) cdv A outer s H E hr
  have hs : Sem N_lengths_of (bd_lengths_of G_lengths_from ) (pN G_lengths_of) := fun ds μ kont h => sem_pure pu_lengths_of ds μ kont h
  exact B_of F sc_lengths_of hw hs (He.glo_ok X G (c.fact 38 (f := .glo "lengths_of") rfl)) (FunD.bindsN F fun _ _ _ _ _ _ us hl => match us, hl with | [_], _ => rfl)
theorem b_B_lengths {P : Program} {w : World} {K : PySem.W.Frag} {h base : Heap} {mg : Str → Option Value} (X : K.In h) (G : h.Ns mainGlobals mg) (c : He.SaysD fa fn K) : FnB P w K mg base 6 "lengths" [] 1 (pN G_lengths) := by
  obtain ⟨fd, F0⟩ := c.def_ 23 (d := d_lengths) rfl
  have F : FnP K "lengths" "lengths" s_lengths (He.fAd K ("lengths", none)) fd := F0
  have hw : WkB P w K mg base N_lengths "lengths" s_lengths 5 (He.fAd K ("lengths", none)) (bd_lengths G_check_map G_lengths_of ) := fun cdv A outer s H E hr => wk_lengths (B_check_map := (b_B_check_map X G c)) (B_lengths_of := (b_B_lengths_of X G c)) cdv A outer s H E hr
  have hs : Sem N_lengths (bd_lengths G_check_map G_lengths_of ) (pN G_lengths) := fun ds μ kont h => sem_pure pu_lengths ds μ kont h
  exact B_of F sc_lengths hw hs (He.glo_ok X G (c.fact 39 (f := .glo "lengths") rfl)) (FunD.bindsN F fun _ _ _ _ _ _ us hl => match us, hl with | [_], _ => rfl)
theorem b_B_present {P : Program} {w : World} {K : PySem.W.Frag} {h base : Heap} {mg : Str → Option Value} (X : K.In h) (G : h.Ns mainGlobals mg) (c : He.SaysD fa fn K) : FnB P w K mg base 1 "present" [] 1 (pN G_present) := by
  obtain ⟨fd, F0⟩ := c.def_ 24 (d := d_present) rfl
  have F : FnP K "present" "present" s_present (He.fAd K ("present", none)) fd := F0
  have hw : WkB P w K mg base N_present "present" s_present 0 (He.fAd K ("present", none)) (bd_present  ) := fun cdv A outer s H E hr => wk_present  cdv A outer s H E hr
  have hs : Sem N_present (bd_present  ) (pN G_present) := fun ds μ kont h => sem_pure pu_present ds μ kont h
  exact B_of F sc_present hw hs (He.glo_ok X G (c.fact 40 (f := .glo "present") rfl)) (FunD.bindsN F fun _ _ _ _ _ _ us hl => match us, hl with | [_], _ => rfl)
theorem b_B_with_length {P : Program} {w : World} {K : PySem.W.Frag} {h base : Heap} {mg : Str → Option Value} (X : K.In h) (G : h.Ns mainGlobals mg) (c : He.SaysD fa fn K) : FnB P w K mg base 1 "with_length" [] 3 (pN G_with_length) := by
  obtain ⟨fd, F0⟩ := c.def_ 25 (d := d_with_length) rfl
  have F : FnP K "with_length" "with_length" s_with_length (He.fAd K ("with_length", none)) fd := F0
  have hw : WkB P w K mg base N_with_length "with_length" s_with_length 0 (He.fAd K ("with_length", none)) (bd_with_length  ) := fun cdv A outer s H E hr => wk_with_length  cdv A outer s H E hr
  have hs : Sem N_with_length (bd_with_length  ) (pN G_with_length) := fun ds μ kont h => sem_pure pu_with_length ds μ kont h
  exact B_of F sc_with_length hw hs (He.glo_ok X G (c.fact 41 (f := .glo "with_length") rfl)) (FunD.bindsN F fun _ _ _ _ _ _ us hl => match us, hl with | [_, _, _], _ => rfl)
theorem b_B_shortened {P : Program} {w : World} {K : PySem.W.Frag} {h base : Heap} {mg : Str → Option Value} (X : K.In h) (G : h.Ns mainGlobals mg) (c : He.SaysD fa fn K) : FnB P w K mg base 3 "shortened" [] 4 S_shortened := by
  obtain ⟨fd, F0⟩ := c.def_ 26 (d := d_shortened) rfl
  have F : FnP K "shortened" "shortened" s_shortened (He.fAd K ("shortened", none)) fd := F0
  have hw : WkB P w K mg base N_shortened "shortened" s_shortened 2 (He.fAd K ("shortened", none)) (bd_shortened G_least G_plus ) := fun cdv A outer s H E hr => wk_shortened (B_least := (b_B_least X G c)) (B_plus := (b_B_plus X G c)) (mz_tuple := (He.free_ok X G (c.fact 10 (f := .free "tuple") rfl))) (mz_zip := (He.free_ok X G (c.fact 42 (f := .free "zip") rfl))) cdv A outer s H E hr
  have hs : Sem N_shortened (bd_shortened G_least G_plus ) S_shortened := fun ds μ kont h => sem_shortened ds μ kont h
  exact B_of F sc_shortened hw hs (He.glo_ok X G (c.fact 43 (f := .glo "shortened") rfl)) (FunD.bindsN F fun _ _ _ _ _ _ us hl => match us, hl with | [_, _, _, _], _ => rfl)
theorem b_B_lengthened {P : Program} {w : World} {K : PySem.W.Frag} {h base : Heap} {mg : Str → Option Value} (X : K.In h) (G : h.Ns mainGlobals mg) (c : He.SaysD fa fn K) : FnB P w K mg base 4 "lengthened" [] 6 S_lengthened := by
  obtain ⟨fd, F0⟩ := c.def_ 27 (d := d_lengthened) rfl
  have F : FnP K "lengthened" "lengthened" s_lengthened (He.fAd K ("lengthened", none)) fd := F0
  have hw : WkB P w K mg base N_lengthened "lengthened" s_lengthened 3 (He.fAd K ("lengthened", none)) (bd_lengthened G_is_less G_lengths_from G_plus G_present ) := fun cdv A outer s H E hr => wk_lengthened (B_is_less := (b_B_is_less X G c)) (B_lengths_from := (b_B_lengths_from X G c)) (B_plus := (b_B_plus X G c)) (B_present := (b_B_present X G c)) (mz_enumerate := (He.free_ok X G (c.fact 34 (f := .free "enumerate") rfl))) (mz_tuple := (He.free_ok X G (c.fact 10 (f := .free "tuple") rfl))) cdv A outer s H E hr
  have hs : Sem N_lengthened (bd_lengthened G_is_less G_lengths_from G_plus G_present ) S_lengthened := fun ds μ kont h => sem_lengthened ds μ kont h
  exact B_of F sc_lengthened hw hs (He.glo_ok X G (c.fact 44 (f := .glo "lengthened") rfl)) (FunD.bindsN F fun _ _ _ _ _ _ us hl => match us, hl with | [_, _, _, _, _, _], _ => rfl)
theorem b_MK_Watch {P : Program} {w : World} {K : PySem.W.Frag} {h base : Heap} {mg : Str → Option Value} (X : K.In h) (G : h.Ns mainGlobals mg) (c : He.SaysD fa fn K) : MkB P w K mg base 7 (He.ga K "Watch") "Watch" 2 (S_init (He.ga K "Watch")) := by
  obtain ⟨fd, F0⟩ := c.def_ 28 (d := d_Watch_init) rfl
  have F : FnP K "__init__" "Watch.__init__" s_Watch_init (He.fAd K ("Watch", some "__init__")) fd := F0
  have hw : WkB P w K mg base N_Watch_init "Watch.__init__" s_Watch_init 6 (He.fAd K ("Watch", some "__init__")) (bd_Watch_init G_lengths_of G_write_map (He.ga K "Watch")) := fun cdv A outer s H E hr => wk_Watch_init (B_lengths_of := (b_B_lengths_of X G c)) (B_write_map := (b_B_write_map X G c)) (K_Watch := (He.cls_ok (c.fact 45 (f := .cls "Watch") rfl))) (N_Watch__done := (He.noat_ok (c.fact 46 (f := .noat "Watch" "_done") rfl))) (N_Watch__head := (He.noat_ok (c.fact 47 (f := .noat "Watch" "_head") rfl))) (N_Watch__many := (He.noat_ok (c.fact 48 (f := .noat "Watch" "_many") rfl))) (N_Watch__table := (He.noat_ok (c.fact 49 (f := .noat "Watch" "_table") rfl))) (N_Watch__ties := (He.noat_ok (c.fact 50 (f := .noat "Watch" "_ties") rfl))) (mz_list := (He.free_ok X G (c.fact 9 (f := .free "list") rfl))) cdv A outer s H E hr
  have hs : Sem N_Watch_init (bd_Watch_init G_lengths_of G_write_map (He.ga K "Watch")) (S_init (He.ga K "Watch")) := fun ds μ kont h => sem_init (He.ga K "Watch") ds μ kont h
  exact I_of F sc_Watch_init hw hs (He.mkr_ok (c.fact 51 (f := .mkr "Watch") rfl)) (He.glo_ok X G (c.fact 52 (f := .glo "Watch") rfl)) (FunD.bindsN F fun _ _ _ _ _ _ us hl => match us, hl with | [_, _], _ => rfl)
theorem b_MK_Watch_roads {P : Program} {w : World} {K : PySem.W.Frag} {h base : Heap} {mg : Str → Option Value} (X : K.In h) (G : h.Ns mainGlobals mg) (c : He.SaysD fa fn K) : MkKB P w K mg base 7 (He.ga K "Watch") "Watch" ["roads"] 2 (S_init (He.ga K "Watch")) := by
  obtain ⟨fd, F0⟩ := c.def_ 28 (d := d_Watch_init) rfl
  have F : FnP K "__init__" "Watch.__init__" s_Watch_init (He.fAd K ("Watch", some "__init__")) fd := F0
  have hw : WkB P w K mg base N_Watch_init "Watch.__init__" s_Watch_init 6 (He.fAd K ("Watch", some "__init__")) (bd_Watch_init G_lengths_of G_write_map (He.ga K "Watch")) := fun cdv A outer s H E hr => wk_Watch_init (B_lengths_of := (b_B_lengths_of X G c)) (B_write_map := (b_B_write_map X G c)) (K_Watch := (He.cls_ok (c.fact 45 (f := .cls "Watch") rfl))) (N_Watch__done := (He.noat_ok (c.fact 46 (f := .noat "Watch" "_done") rfl))) (N_Watch__head := (He.noat_ok (c.fact 47 (f := .noat "Watch" "_head") rfl))) (N_Watch__many := (He.noat_ok (c.fact 48 (f := .noat "Watch" "_many") rfl))) (N_Watch__table := (He.noat_ok (c.fact 49 (f := .noat "Watch" "_table") rfl))) (N_Watch__ties := (He.noat_ok (c.fact 50 (f := .noat "Watch" "_ties") rfl))) (mz_list := (He.free_ok X G (c.fact 9 (f := .free "list") rfl))) cdv A outer s H E hr
  have hs : Sem N_Watch_init (bd_Watch_init G_lengths_of G_write_map (He.ga K "Watch")) (S_init (He.ga K "Watch")) := fun ds μ kont h => sem_init (He.ga K "Watch") ds μ kont h
  exact IK_of F sc_Watch_init hw hs (He.mkr_ok (c.fact 51 (f := .mkr "Watch") rfl)) (He.glo_ok X G (c.fact 52 (f := .glo "Watch") rfl)) (kb_of F fun _ _ _ _ _ _ us ws l1 l2 => match us, ws, l1, l2 with | [_], [_], _, _ => rfl)
theorem b_MT_Watch__check_tie {P : Program} {w : World} {K : PySem.W.Frag} {h base : Heap} {mg : Str → Option Value} (X : K.In h) (G : h.Ns mainGlobals mg) (c : He.SaysD fa fn K) : MtB P w K mg base 3 (He.ga K "Watch") "_check_tie" 2 (pN (G_Watch__check_tie (He.ga K "Watch"))) := by
  obtain ⟨fd, F0⟩ := c.def_ 29 (d := d_Watch__check_tie) rfl
  have F : FnP K "_check_tie" "Watch._check_tie" s_Watch__check_tie (He.fAd K ("Watch", some "_check_tie")) fd := F0
  have hw : WkB P w K mg base N_Watch__check_tie "Watch._check_tie" s_Watch__check_tie 2 (He.fAd K ("Watch", some "_check_tie")) (bd_Watch__check_tie G_is_index (He.ga K "Watch")) := fun cdv A outer s H E hr => wk_Watch__check_tie (B_is_index := (b_B_is_index X G c)) (K_Watch := (He.cls_ok (c.fact 45 (f := .cls "Watch") rfl))) (N_Watch__ties := (He.noat_ok (c.fact 50 (f := .noat "Watch" "_ties") rfl))) (mz_len := (He.free_ok X G (c.fact 12 (f := .free "len") rfl))) cdv A outer s H E hr
  have hs : Sem N_Watch__check_tie (bd_Watch__check_tie G_is_index (He.ga K "Watch")) (pN (G_Watch__check_tie (He.ga K "Watch"))) := fun ds μ kont h => sem_pure pu_Watch__check_tie ds μ kont h
  exact M_of F sc_Watch__check_tie hw hs (He.meth_ok (c.fact 53 (f := .meth "Watch" "_check_tie") rfl)) (FunD.bindsN F fun _ _ _ _ _ _ us hl => match us, hl with | [_, _], _ => rfl)
theorem b_MT_Watch_lengths {P : Program} {w : World} {K : PySem.W.Frag} {h base : Heap} {mg : Str → Option Value} (X : K.In h) (G : h.Ns mainGlobals mg) (c : He.SaysD fa fn K) : MtB P w K mg base 1 (He.ga K "Watch") "lengths" 1 (pN (G_Watch_lengths (He.ga K "Watch"))) := by
  obtain ⟨fd, F0⟩ := c.def_ 30 (d := d_Watch_lengths) rfl
  have F : FnP K "lengths" "Watch.lengths" s_Watch_lengths (He.fAd K ("Watch", some "lengths")) fd := F0
  have hw : WkB P w K mg base N_Watch_lengths "Watch.lengths" s_Watch_lengths 0 (He.fAd K ("Watch", some "lengths")) (bd_Watch_lengths  (He.ga K "Watch")) := fun cdv A outer s H E hr => wk_Watch_lengths (K_Watch := (He.cls_ok (c.fact 45 (f := .cls "Watch") rfl))) (N_Watch__table := (He.noat_ok (c.fact 49 (f := .noat "Watch" "_table") rfl))) cdv A outer s H E hr
  have hs : Sem N_Watch_lengths (bd_Watch_lengths  (He.ga K "Watch")) (pN (G_Watch_lengths (He.ga K "Watch"))) := fun ds μ kont h => sem_pure pu_Watch_lengths ds μ kont h
  exact M_of F sc_Watch_lengths hw hs (He.meth_ok (c.fact 54 (f := .meth "Watch" "lengths") rfl)) (FunD.bindsN F fun _ _ _ _ _ _ us hl => match us, hl with | [_], _ => rfl)
theorem b_MT_Watch_map {P : Program} {w : World} {K : PySem.W.Frag} {h base : Heap} {mg : Str → Option Value} (X : K.In h) (G : h.Ns mainGlobals mg) (c : He.SaysD fa fn K) : MtB P w K mg base 2 (He.ga K "Watch") "map" 1 (pN (G_Watch_map (He.ga K "Watch"))) := by
  obtain ⟨fd, F0⟩ := c.def_ 31 (d := d_Watch_map) rfl
  have F : FnP K "map" "Watch.map" s_Watch_map (He.fAd K ("Watch", some "map")) fd := F0
  have hw : WkB P w K mg base N_Watch_map "Watch.map" s_Watch_map 1 (He.fAd K ("Watch", some "map")) (bd_Watch_map G_map_of G_present (He.ga K "Watch")) := fun cdv A outer s H E hr => wk_Watch_map (B_map_of := (b_B_map_of X G c)) (B_present := (b_B_present X G c)) (K_Watch := (He.cls_ok (c.fact 45 (f := .cls "Watch") rfl))) (N_Watch__many := (He.noat_ok (c.fact 48 (f := .noat "Watch" "_many") rfl))) (N_Watch__ties := (He.noat_ok (c.fact 50 (f := .noat "Watch" "_ties") rfl))) cdv A outer s H E hr
  have hs : Sem N_Watch_map (bd_Watch_map G_map_of G_present (He.ga K "Watch")) (pN (G_Watch_map (He.ga K "Watch"))) := fun ds μ kont h => sem_pure pu_Watch_map ds μ kont h
  exact M_of F sc_Watch_map hw hs (He.meth_ok (c.fact 55 (f := .meth "Watch" "map") rfl)) (FunD.bindsN F fun _ _ _ _ _ _ us hl => match us, hl with | [_], _ => rfl)
theorem b_MT_Watch_set_length {P : Program} {w : World} {K : PySem.W.Frag} {h base : Heap} {mg : Str → Option Value} (X : K.In h) (G : h.Ns mainGlobals mg) (c : He.SaysD fa fn K) : MtB P w K mg base 5 (He.ga K "Watch") "set_length" 3 (S_set_length (He.ga K "Watch")) := by
  obtain ⟨fd, F0⟩ := c.def_ 32 (d := d_Watch_set_length) rfl
  have F : FnP K "set_length" "Watch.set_length" s_Watch_set_length (He.fAd K ("Watch", some "set_length")) fd := F0
  have hw : WkB P w K mg base N_Watch_set_length "Watch.set_length" s_Watch_set_length 4 (He.fAd K ("Watch", some "set_length")) (bd_Watch_set_length S_lengthened S_shortened (G_Watch__check_tie (He.ga K "Watch")) G_is_count G_is_less G_is_short G_with_length (He.ga K "Watch")) := fun cdv A outer s H E hr => wk_Watch_set_length (B_is_count := (b_B_is_count X G c)) (B_is_less := (b_B_is_less X G c)) (B_is_short := (b_B_is_short X G c)) (B_lengthened := (b_B_lengthened X G c)) (B_shortened := (b_B_shortened X G c)) (B_with_length := (b_B_with_length X G c)) (K_Watch := (He.cls_ok (c.fact 45 (f := .cls "Watch") rfl))) (MT_Watch__check_tie := (b_MT_Watch__check_tie X G c)) (N_Watch__done := (He.noat_ok (c.fact 46 (f := .noat "Watch" "_done") rfl))) (N_Watch__many := (He.noat_ok (c.fact 48 (f := .noat "Watch" "_many") rfl))) (N_Watch__table := (He.noat_ok (c.fact 49 (f := .noat "Watch" "_table") rfl))) (N_Watch__ties := (He.noat_ok (c.fact 50 (f := .noat "Watch" "_ties") rfl))) (mz_sum := (He.free_ok X G (c.fact 56 (f := .free "sum") rfl))) (mz_zip := (He.free_ok X G (c.fact 42 (f := .free "zip") rfl))) cdv A outer s H E hr
  have hs : Sem N_Watch_set_length (bd_Watch_set_length S_lengthened S_shortened (G_Watch__check_tie (He.ga K "Watch")) G_is_count G_is_less G_is_short G_with_length (He.ga K "Watch")) (S_set_length (He.ga K "Watch")) := fun ds μ kont h => sem_set_length (He.ga K "Watch") ds μ kont h
  exact M_of F sc_Watch_set_length hw hs (He.meth_ok (c.fact 57 (f := .meth "Watch" "set_length") rfl)) (FunD.bindsN F fun _ _ _ _ _ _ us hl => match us, hl with | [_, _, _], _ => rfl)
theorem b_MT_Watch_set_length_tie_length {P : Program} {w : World} {K : PySem.W.Frag} {h base : Heap} {mg : Str → Option Value} (X : K.In h) (G : h.Ns mainGlobals mg) (c : He.SaysD fa fn K) : MtKB P w K mg base 5 (He.ga K "Watch") "set_length" ["tie", "length"] 3 (S_set_length (He.ga K "Watch")) := by
  obtain ⟨fd, F0⟩ := c.def_ 32 (d := d_Watch_set_length) rfl
  have F : FnP K "set_length" "Watch.set_length" s_Watch_set_length (He.fAd K ("Watch", some "set_length")) fd := F0
  have hw : WkB P w K mg base N_Watch_set_length "Watch.set_length" s_Watch_set_length 4 (He.fAd K ("Watch", some "set_length")) (bd_Watch_set_length S_lengthened S_shortened (G_Watch__check_tie (He.ga K "Watch")) G_is_count G_is_less G_is_short G_with_length (He.ga K "Watch")) := fun cdv A outer s H E hr => wk_Watch_set_length (B_is_count := (b_B_is_count X G c)) (B_is_less := (b_B_is_less X G c)) (B_is_short := (b_B_is_short X G c)) (B_lengthened := (b_B_lengthened X G c)) (B_shortened := (b_B_shortened X G c)) (B_with_length := (b_B_with_length X G c)) (K_Watch := (He.cls_ok (c.fact 45 (f := .cls "Watch") rfl))) (MT_Watch__check_tie := (b_MT_Watch__check_tie X G c)) (N_Watch__done := (He.noat_ok (c.fact 46 (f := .noat "Watch" "_done") rfl))) (N_Watch__many := (He.noat_ok (c.fact 48 (f := .noat "Watch" "_many") rfl))) (N_Watch__table := (He.noat_ok (c.fact 49 (f := .noat "Watch" "_table") rfl))) (N_Watch__ties := (He.noat_ok (c.fact 50 (f := .noat "Watch" "_ties") rfl))) (mz_sum := (He.free_ok X G (c.fact 56 (f := .free "sum") rfl))) (mz_zip := (He.free_ok X G (c.fact 42 (f := .free "zip") rfl))) cdv A outer s H E hr
  have hs : Sem N_Watch_set_length (bd_Watch_set_length S_lengthened S_shortened (G_Watch__check_tie (He.ga K "Watch")) G_is_count G_is_less G_is_short G_with_length (He.ga K "Watch")) (S_set_length (He.ga K "Watch")) := fun ds μ kont h => sem_set_length (He.ga K "Watch") ds μ kont h
  exact MK_of F sc_Watch_set_length hw hs (He.meth_ok (c.fact 57 (f := .meth "Watch" "set_length") rfl)) (kb_of F fun _ _ _ _ _ _ us ws l1 l2 => match us, ws, l1, l2 with | [_], [_, _], _, _ => rfl)
theorem b_MT_Watch_changes {P : Program} {w : World} {K : PySem.W.Frag} {h base : Heap} {mg : Str → Option Value} (X : K.In h) (G : h.Ns mainGlobals mg) (c : He.SaysD fa fn K) : MtB P w K mg base 1 (He.ga K "Watch") "changes" 1 (pN (G_Watch_changes (He.ga K "Watch"))) := by
  obtain ⟨fd, F0⟩ := c.def_ 33 (d := d_Watch_changes) rfl
  have F : FnP K "changes" "Watch.changes" s_Watch_changes (He.fAd K ("Watch", some "changes")) fd := F0
  have hw : WkB P w K mg base N_Watch_changes "Watch.changes" s_Watch_changes 0 (He.fAd K ("Watch", some "changes")) (bd_Watch_changes  (He.ga K "Watch")) := fun cdv A outer s H E hr => wk_Watch_changes (K_Watch := (He.cls_ok (c.fact 45 (f := .cls "Watch") rfl))) (N_Watch__done := (He.noat_ok (c.fact 46 (f := .noat "Watch" "_done") rfl))) cdv A outer s H E hr
  have hs : Sem N_Watch_changes (bd_Watch_changes  (He.ga K "Watch")) (pN (G_Watch_changes (He.ga K "Watch"))) := fun ds μ kont h => sem_pure pu_Watch_changes ds μ kont h
  exact M_of F sc_Watch_changes hw hs (He.meth_ok (c.fact 58 (f := .meth "Watch" "changes") rfl)) (FunD.bindsN F fun _ _ _ _ _ _ us hl => match us, hl with | [_], _ => rfl)
theorem b_MT_Watch_undo {P : Program} {w : World} {K : PySem.W.Frag} {h base : Heap} {mg : Str → Option Value} (X : K.In h) (G : h.Ns mainGlobals mg) (c : He.SaysD fa fn K) : MtB P w K mg base 3 (He.ga K "Watch") "undo" 1 (S_undo (He.ga K "Watch")) := by
  obtain ⟨fd, F0⟩ := c.def_ 34 (d := d_Watch_undo) rfl
  have F : FnP K "undo" "Watch.undo" s_Watch_undo (He.fAd K ("Watch", some "undo")) fd := F0
  have hw : WkB P w K mg base N_Watch_undo "Watch.undo" s_Watch_undo 2 (He.fAd K ("Watch", some "undo")) (bd_Watch_undo  (He.ga K "Watch")) := fun cdv A outer s H E hr => wk_Watch_undo (K_Watch := (He.cls_ok (c.fact 45 (f := .cls "Watch") rfl))) (N_Watch__done := (He.noat_ok (c.fact 46 (f := .noat "Watch" "_done") rfl))) (N_Watch__table := (He.noat_ok (c.fact 49 (f := .noat "Watch" "_table") rfl))) (N_Watch__ties := (He.noat_ok (c.fact 50 (f := .noat "Watch" "_ties") rfl))) cdv A outer s H E hr
  have hs : Sem N_Watch_undo (bd_Watch_undo  (He.ga K "Watch")) (S_undo (He.ga K "Watch")) := fun ds μ kont h => sem_undo (He.ga K "Watch") ds μ kont h
  exact M_of F sc_Watch_undo hw hs (He.meth_ok (c.fact 59 (f := .meth "Watch" "undo") rfl)) (FunD.bindsN F fun _ _ _ _ _ _ us hl => match us, hl with | [_], _ => rfl)
theorem b_MT_Watch_enough {P : Program} {w : World} {K : PySem.W.Frag} {h base : Heap} {mg : Str → Option Value} (X : K.In h) (G : h.Ns mainGlobals mg) (c : He.SaysD fa fn K) : MtB P w K mg base 4 (He.ga K "Watch") "enough" 2 (S_enough (He.ga K "Watch")) := by
  obtain ⟨fd, F0⟩ := c.def_ 35 (d := d_Watch_enough) rfl
  have F : FnP K "enough" "Watch.enough" s_Watch_enough (He.fAd K ("Watch", some "enough")) fd := F0
  have hw : WkB P w K mg base N_Watch_enough "Watch.enough" s_Watch_enough 3 (He.fAd K ("Watch", some "enough")) (bd_Watch_enough (G_Watch__check_tie (He.ga K "Watch")) G_lengths_from G_present G_with_length (He.ga K "Watch")) := fun cdv A outer s H E hr => wk_Watch_enough (B_lengths_from := (b_B_lengths_from X G c)) (B_present := (b_B_present X G c)) (B_with_length := (b_B_with_length X G c)) (K_Watch := (He.cls_ok (c.fact 45 (f := .cls "Watch") rfl))) (MT_Watch__check_tie := (b_MT_Watch__check_tie X G c)) (N_Watch__many := (He.noat_ok (c.fact 48 (f := .noat "Watch" "_many") rfl))) (N_Watch__ties := (He.noat_ok (c.fact 50 (f := .noat "Watch" "_ties") rfl))) cdv A outer s H E hr
  have hs : Sem N_Watch_enough (bd_Watch_enough (G_Watch__check_tie (He.ga K "Watch")) G_lengths_from G_present G_with_length (He.ga K "Watch")) (S_enough (He.ga K "Watch")) := fun ds μ kont h => sem_enough (He.ga K "Watch") ds μ kont h
  exact M_of F sc_Watch_enough hw hs (He.meth_ok (c.fact 60 (f := .meth "Watch" "enough") rfl)) (FunD.bindsN F fun _ _ _ _ _ _ us hl => match us, hl with | [_, _], _ => rfl)
theorem b_MT_Watch_lines {P : Program} {w : World} {K : PySem.W.Frag} {h base : Heap} {mg : Str → Option Value} (X : K.In h) (G : h.Ns mainGlobals mg) (c : He.SaysD fa fn K) : MtB P w K mg base 1 (He.ga K "Watch") "lines" 1 (S_lines (He.ga K "Watch")) := by
  obtain ⟨fd, F0⟩ := c.def_ 36 (d := d_Watch_lines) rfl
  have F : FnP K "lines" "Watch.lines" s_Watch_lines (He.fAd K ("Watch", some "lines")) fd := F0
  have hw : WkB P w K mg base N_Watch_lines "Watch.lines" s_Watch_lines 0 (He.fAd K ("Watch", some "lines")) (bd_Watch_lines  (He.ga K "Watch")) := fun cdv A outer s H E hr => wk_Watch_lines (K_Watch := (He.cls_ok (c.fact 45 (f := .cls "Watch") rfl))) (N_Watch__done := (He.noat_ok (c.fact 46 (f := .noat "Watch" "_done") rfl))) (N_Watch__head := (He.noat_ok (c.fact 47 (f := .noat "Watch" "_head") rfl))) (c_HEAD := (gl_str X G (c.fact 61 (f := .str "HEAD" "watch") rfl))) (c_LENGTH := (gl_str X G (c.fact 62 (f := .str "LENGTH" "length") rfl))) (c_OUT := (gl_str X G (c.fact 63 (f := .str "OUT" "out") rfl))) cdv A outer s H E hr
  have hs : Sem N_Watch_lines (bd_Watch_lines  (He.ga K "Watch")) (S_lines (He.ga K "Watch")) := fun ds μ kont h => sem_lines (He.ga K "Watch") ds μ kont h
  exact M_of F sc_Watch_lines hw hs (He.meth_ok (c.fact 64 (f := .meth "Watch" "lines") rfl)) (FunD.bindsN F fun _ _ _ _ _ _ us hl => match us, hl with | [_], _ => rfl)
theorem b_B_change_in {P : Program} {w : World} {K : PySem.W.Frag} {h base : Heap} {mg : Str → Option Value} (X : K.In h) (G : h.Ns mainGlobals mg) (c : He.SaysD fa fn K) : FnB P w K mg base 2 "change_in" [] 1 (pN G_change_in) := by
  obtain ⟨fd, F0⟩ := c.def_ 37 (d := d_change_in) rfl
  have F : FnP K "change_in" "change_in" s_change_in (He.fAd K ("change_in", none)) fd := F0
  have hw : WkB P w K mg base N_change_in "change_in" s_change_in 1 (He.fAd K ("change_in", none)) (bd_change_in G_count_in ) := fun cdv A outer s H E hr => wk_change_in (B_count_in_1 := (b_B_count_in_1 X G c)) (B_count_in_2 := (b_B_count_in_2 X G c)) (c_LENGTH := (gl_str X G (c.fact 62 (f := .str "LENGTH" "length") rfl))) (c_OUT := (gl_str X G (c.fact 63 (f := .str "OUT" "out") rfl))) (c_TIE_DIGITS := (gl_int X G (c.fact 65 (f := .int "TIE_DIGITS" 3) rfl))) (mz_len := (He.free_ok X G (c.fact 12 (f := .free "len") rfl))) cdv A outer s H E hr
  have hs : Sem N_change_in (bd_change_in G_count_in ) (pN G_change_in) := fun ds μ kont h => sem_pure pu_change_in ds μ kont h
  exact B_of F sc_change_in hw hs (He.glo_ok X G (c.fact 66 (f := .glo "change_in") rfl)) (FunD.bindsN F fun _ _ _ _ _ _ us hl => match us, hl with | [_], _ => rfl)
theorem b_B_read_watch {P : Program} {w : World} {K : PySem.W.Frag} {h base : Heap} {mg : Str → Option Value} (X : K.In h) (G : h.Ns mainGlobals mg) (c : He.SaysD fa fn K) : FnB P w K mg base 9 "read_watch" [] 1 (S_read_watch (He.ga K "Watch")) := by
  obtain ⟨fd, F0⟩ := c.def_ 38 (d := d_read_watch) rfl
  have F : FnP K "read_watch" "read_watch" s_read_watch (He.fAd K ("read_watch", none)) fd := F0
  have hw : WkB P w K mg base N_read_watch "read_watch" s_read_watch 8 (He.fAd K ("read_watch", none)) (bd_read_watch (S_init (He.ga K "Watch")) (S_lines (He.ga K "Watch")) (S_set_length (He.ga K "Watch")) G_change_in G_is_list G_read_map (He.ga K "Watch")) := fun cdv A outer s H E hr => wk_read_watch (B_change_in := (b_B_change_in X G c)) (B_is_list := (b_B_is_list X G c)) (B_read_map := (b_B_read_map X G c)) (K_Watch := (He.cls_ok (c.fact 45 (f := .cls "Watch") rfl))) (MK_Watch := (b_MK_Watch X G c)) (MT_Watch_lines := (b_MT_Watch_lines X G c)) (MT_Watch_set_length := (b_MT_Watch_set_length X G c)) (c_HEAD := (gl_str X G (c.fact 61 (f := .str "HEAD" "watch") rfl))) (mg_MapError := (He.glo_ok X G (c.fact 67 (f := .glo "MapError") rfl))) (mz_all := (He.free_ok X G (c.fact 14 (f := .free "all") rfl))) (mz_isinstance := (He.free_ok X G (c.fact 2 (f := .free "isinstance") rfl))) (mz_list := (He.free_ok X G (c.fact 9 (f := .free "list") rfl))) (mz_str := (He.free_ok X G (c.fact 32 (f := .free "str") rfl))) cdv A outer s H E hr
  have hs : Sem N_read_watch (bd_read_watch (S_init (He.ga K "Watch")) (S_lines (He.ga K "Watch")) (S_set_length (He.ga K "Watch")) G_change_in G_is_list G_read_map (He.ga K "Watch")) (S_read_watch (He.ga K "Watch")) := fun ds μ kont h => sem_read_watch (He.ga K "Watch") ds μ kont h
  exact B_of F sc_read_watch hw hs (He.glo_ok X G (c.fact 68 (f := .glo "read_watch") rfl)) (FunD.bindsN F fun _ _ _ _ _ _ us hl => match us, hl with | [_], _ => rfl)
theorem b_B__law_cell {P : Program} {w : World} {K : PySem.W.Frag} {h base : Heap} {mg : Str → Option Value} (X : K.In h) (G : h.Ns mainGlobals mg) (c : He.SaysD fa fn K) : FnB P w K mg base 1 "_law_cell" [] 2 (pN G__law_cell) := by
  obtain ⟨fd, F0⟩ := c.def_ 39 (d := d__law_cell) rfl
  have F : FnP K "_law_cell" "_law_cell" s__law_cell (He.fAd K ("_law_cell", none)) fd := F0
  have hw : WkB P w K mg base N__law_cell "_law_cell" s__law_cell 0 (He.fAd K ("_law_cell", none)) (bd__law_cell  ) := fun cdv A outer s H E hr => wk__law_cell (mz_int := (He.free_ok X G (c.fact 1 (f := .free "int") rfl))) (mz_len := (He.free_ok X G (c.fact 12 (f := .free "len") rfl))) (mz_sum := (He.free_ok X G (c.fact 56 (f := .free "sum") rfl))) cdv A outer s H E hr
  have hs : Sem N__law_cell (bd__law_cell  ) (pN G__law_cell) := fun ds μ kont h => sem_pure pu__law_cell ds μ kont h
  exact B_of F sc__law_cell hw hs (He.glo_ok X G (c.fact 69 (f := .glo "_law_cell") rfl)) (FunD.bindsN F fun _ _ _ _ _ _ us hl => match us, hl with | [_, _], _ => rfl)
theorem b_B__law_box {P : Program} {w : World} {K : PySem.W.Frag} {h base : Heap} {mg : Str → Option Value} (X : K.In h) (G : h.Ns mainGlobals mg) (c : He.SaysD fa fn K) : FnB P w K mg base 1 "_law_box" [] 1 S__law_box := by
  obtain ⟨fd, F0⟩ := c.def_ 40 (d := d__law_box) rfl
  have F : FnP K "_law_box" "_law_box" s__law_box (He.fAd K ("_law_box", none)) fd := F0
  have hw : WkB P w K mg base N__law_box "_law_box" s__law_box 0 (He.fAd K ("_law_box", none)) (bd__law_box  ) := fun cdv A outer s H E hr => wk__law_box (mz_abs := (He.free_ok X G (c.fact 70 (f := .free "abs") rfl))) (mz_int := (He.free_ok X G (c.fact 1 (f := .free "int") rfl))) cdv A outer s H E hr
  have hs : Sem N__law_box (bd__law_box  ) S__law_box := fun ds μ kont h => sem__law_box ds μ kont h
  exact B_of F sc__law_box hw hs (He.glo_ok X G (c.fact 71 (f := .glo "_law_box") rfl)) (FunD.bindsN F fun _ _ _ _ _ _ us hl => match us, hl with | [_], _ => rfl)
theorem b_B__law_take {P : Program} {w : World} {K : PySem.W.Frag} {h base : Heap} {mg : Str → Option Value} (X : K.In h) (G : h.Ns mainGlobals mg) (c : He.SaysD fa fn K) : FnB P w K mg base 1 "_law_take" [] 2 S__law_take := by
  obtain ⟨fd, F0⟩ := c.def_ 41 (d := d__law_take) rfl
  have F : FnP K "_law_take" "_law_take" s__law_take (He.fAd K ("_law_take", none)) fd := F0
  have hw : WkB P w K mg base N__law_take "_law_take" s__law_take 0 (He.fAd K ("_law_take", none)) (bd__law_take  ) := fun cdv A outer s H E hr => wk__law_take (mz_int := (He.free_ok X G (c.fact 1 (f := .free "int") rfl))) cdv A outer s H E hr
  have hs : Sem N__law_take (bd__law_take  ) S__law_take := fun ds μ kont h => sem__law_take ds μ kont h
  exact B_of F sc__law_take hw hs (He.glo_ok X G (c.fact 72 (f := .glo "_law_take") rfl)) (FunD.bindsN F fun _ _ _ _ _ _ us hl => match us, hl with | [_, _], _ => rfl)
theorem b_B__law_mixed {P : Program} {w : World} {K : PySem.W.Frag} {h base : Heap} {mg : Str → Option Value} (X : K.In h) (G : h.Ns mainGlobals mg) (c : He.SaysD fa fn K) : FnB P w K mg base 2 "_law_mixed" [] 2 S__law_mixed := by
  obtain ⟨fd, F0⟩ := c.def_ 42 (d := d__law_mixed) rfl
  have F : FnP K "_law_mixed" "_law_mixed" s__law_mixed (He.fAd K ("_law_mixed", none)) fd := F0
  have hw : WkB P w K mg base N__law_mixed "_law_mixed" s__law_mixed 1 (He.fAd K ("_law_mixed", none)) (bd__law_mixed S__law_take ) := fun cdv A outer s H E hr => wk__law_mixed (B__law_take := (b_B__law_take X G c)) (mz_len := (He.free_ok X G (c.fact 12 (f := .free "len") rfl))) (mz_list := (He.free_ok X G (c.fact 9 (f := .free "list") rfl))) (mz_range := (He.free_ok X G (c.fact 15 (f := .free "range") rfl))) cdv A outer s H E hr
  have hs : Sem N__law_mixed (bd__law_mixed S__law_take ) S__law_mixed := fun ds μ kont h => sem__law_mixed ds μ kont h
  exact B_of F sc__law_mixed hw hs (He.glo_ok X G (c.fact 73 (f := .glo "_law_mixed") rfl)) (FunD.bindsN F fun _ _ _ _ _ _ us hl => match us, hl with | [_, _], _ => rfl)
theorem b_B__law_same {P : Program} {w : World} {K : PySem.W.Frag} {h base : Heap} {mg : Str → Option Value} (X : K.In h) (G : h.Ns mainGlobals mg) (c : He.SaysD fa fn K) : FnB P w K mg base 6 "_law_same" [] 2 (pN G__law_same) := by
  obtain ⟨fd, F0⟩ := c.def_ 43 (d := d__law_same) rfl
  have F : FnP K "_law_same" "_law_same" s__law_same (He.fAd K ("_law_same", none)) fd := F0
  have hm : mg "_law_same" = some (.ref (He.fAd K ("_law_same", none))) := He.glo_ok X G (c.fact 75 (f := .glo "_law_same") rfl)
  have bd : Binds K fd ["given", "due"] [] := FunD.bindsN F fun _ _ _ _ _ _ us hl => match us, hl with | [_, _], _ => rfl
  have key : ∀ j : Nat, FnB P w K mg base j "_law_same" [] 2 (pN (sameF j)) := fun j => by
    induction j with
    | zero => exact FnB.never F hm bd
    | succ j ih => exact B_of (body := bd__law_same (sameF j)) F sc__law_same (fun cdv A outer s H E hr => wk__law_same ih (mz_bool := (He.free_ok X G (c.fact 0 (f := .free "bool") rfl))) (mz_dict := (He.free_ok X G (c.fact 74 (f := .free "dict") rfl))) (mz_int := (He.free_ok X G (c.fact 1 (f := .free "int") rfl))) (mz_isinstance := (He.free_ok X G (c.fact 2 (f := .free "isinstance") rfl))) (mz_len := (He.free_ok X G (c.fact 12 (f := .free "len") rfl))) (mz_list := (He.free_ok X G (c.fact 9 (f := .free "list") rfl))) (mz_range := (He.free_ok X G (c.fact 15 (f := .free "range") rfl))) (mz_str := (He.free_ok X G (c.fact 32 (f := .free "str") rfl))) (mz_tuple := (He.free_ok X G (c.fact 10 (f := .free "tuple") rfl))) cdv A outer s H E hr) (fun ds μ kont h => sem_pure pu__law_same ds μ kont h) hm bd
  exact key 6
theorem b_B__law_long {P : Program} {w : World} {K : PySem.W.Frag} {h base : Heap} {mg : Str → Option Value} (X : K.In h) (G : h.Ns mainGlobals mg) (c : He.SaysD fa fn K) : FnB P w K mg base 2 "_law_long" [] 1 S__law_long := by
  obtain ⟨fd, F0⟩ := c.def_ 44 (d := d__law_long) rfl
  have F : FnP K "_law_long" "_law_long" s__law_long (He.fAd K ("_law_long", none)) fd := F0
  have hw : WkB P w K mg base N__law_long "_law_long" s__law_long 1 (He.fAd K ("_law_long", none)) (bd__law_long S__law_take ) := fun cdv A outer s H E hr => wk__law_long (B__law_take := (b_B__law_take X G c)) (mz_int := (He.free_ok X G (c.fact 1 (f := .free "int") rfl))) (mz_range := (He.free_ok X G (c.fact 15 (f := .free "range") rfl))) cdv A outer s H E hr
  have hs : Sem N__law_long (bd__law_long S__law_take ) S__law_long := fun ds μ kont h => sem__law_long ds μ kont h
  exact B_of F sc__law_long hw hs (He.glo_ok X G (c.fact 76 (f := .glo "_law_long") rfl)) (FunD.bindsN F fun _ _ _ _ _ _ us hl => match us, hl with | [_], _ => rfl)
theorem b_B__law_two {P : Program} {w : World} {K : PySem.W.Frag} {h base : Heap} {mg : Str → Option Value} (X : K.In h) (G : h.Ns mainGlobals mg) (c : He.SaysD fa fn K) : FnB P w K mg base 2 "_law_two" [] 2 S__law_two := by
  obtain ⟨fd, F0⟩ := c.def_ 45 (d := d__law_two) rfl
  have F : FnP K "_law_two" "_law_two" s__law_two (He.fAd K ("_law_two", none)) fd := F0
  have hw : WkB P w K mg base N__law_two "_law_two" s__law_two 1 (He.fAd K ("_law_two", none)) (bd__law_two S__law_take ) := fun cdv A outer s H E hr => wk__law_two (B__law_take := (b_B__law_take X G c)) (mz_int := (He.free_ok X G (c.fact 1 (f := .free "int") rfl))) cdv A outer s H E hr
  have hs : Sem N__law_two (bd__law_two S__law_take ) S__law_two := fun ds μ kont h => sem__law_two ds μ kont h
  exact B_of F sc__law_two hw hs (He.glo_ok X G (c.fact 77 (f := .glo "_law_two") rfl)) (FunD.bindsN F fun _ _ _ _ _ _ us hl => match us, hl with | [_, _], _ => rfl)
theorem b_B__law_roads {P : Program} {w : World} {K : PySem.W.Frag} {h base : Heap} {mg : Str → Option Value} (X : K.In h) (G : h.Ns mainGlobals mg) (c : He.SaysD fa fn K) : FnB P w K mg base 3 "_law_roads" [] 3 S__law_roads := by
  obtain ⟨fd, F0⟩ := c.def_ 46 (d := d__law_roads) rfl
  have F : FnP K "_law_roads" "_law_roads" s__law_roads (He.fAd K ("_law_roads", none)) fd := F0
  have hw : WkB P w K mg base N__law_roads "_law_roads" s__law_roads 2 (He.fAd K ("_law_roads", none)) (bd__law_roads S__law_mixed S__law_take S__law_two ) := fun cdv A outer s H E hr => wk__law_roads (B__law_mixed := (b_B__law_mixed X G c)) (B__law_take := (b_B__law_take X G c)) (B__law_two := (b_B__law_two X G c)) (mz_list := (He.free_ok X G (c.fact 9 (f := .free "list") rfl))) (mz_max := (He.free_ok X G (c.fact 78 (f := .free "max") rfl))) (mz_range := (He.free_ok X G (c.fact 15 (f := .free "range") rfl))) (mz_sorted := (He.free_ok X G (c.fact 27 (f := .free "sorted") rfl))) (mz_tuple := (He.free_ok X G (c.fact 10 (f := .free "tuple") rfl))) cdv A outer s H E hr
  have hs : Sem N__law_roads (bd__law_roads S__law_mixed S__law_take S__law_two ) S__law_roads := fun ds μ kont h => sem__law_roads ds μ kont h
  exact B_of F sc__law_roads hw hs (He.glo_ok X G (c.fact 79 (f := .glo "_law_roads") rfl)) (FunD.bindsN F fun _ _ _ _ _ _ us hl => match us, hl with | [_, _, _], _ => rfl)
theorem b_B__law_row {P : Program} {w : World} {K : PySem.W.Frag} {h base : Heap} {mg : Str → Option Value} (X : K.In h) (G : h.Ns mainGlobals mg) (c : He.SaysD fa fn K) : FnB P w K mg base 1 "_law_row" [] 3 (pN G__law_row) := by
  obtain ⟨fd, F0⟩ := c.def_ 47 (d := d__law_row) rfl
  have F : FnP K "_law_row" "_law_row" s__law_row (He.fAd K ("_law_row", none)) fd := F0
  have hw : WkB P w K mg base N__law_row "_law_row" s__law_row 0 (He.fAd K ("_law_row", none)) (bd__law_row  ) := fun cdv A outer s H E hr => wk__law_row (mz_range := (He.free_ok X G (c.fact 15 (f := .free "range") rfl))) (mz_tuple := (He.free_ok X G (c.fact 10 (f := .free "tuple") rfl))) cdv A outer s H E hr
  have hs : Sem N__law_row (bd__law_row  ) (pN G__law_row) := fun ds μ kont h => sem__law_row ds μ kont h
  exact B_of F sc__law_row hw hs (He.glo_ok X G (c.fact 80 (f := .glo "_law_row") rfl)) (FunD.bindsN F fun _ _ _ _ _ _ us hl => match us, hl with | [_, _, _], _ => rfl)
theorem b_B__law_lengths {P : Program} {w : World} {K : PySem.W.Frag} {h base : Heap} {mg : Str → Option Value} (X : K.In h) (G : h.Ns mainGlobals mg) (c : He.SaysD fa fn K) : FnB P w K mg base 2 "_law_lengths" [] 2 (pN G__law_lengths) := by
  obtain ⟨fd, F0⟩ := c.def_ 48 (d := d__law_lengths) rfl
  have F : FnP K "_law_lengths" "_law_lengths" s__law_lengths (He.fAd K ("_law_lengths", none)) fd := F0
  have hw : WkB P w K mg base N__law_lengths "_law_lengths" s__law_lengths 1 (He.fAd K ("_law_lengths", none)) (bd__law_lengths G__law_row ) := fun cdv A outer s H E hr => wk__law_lengths (B__law_row := (b_B__law_row X G c)) (mz_range := (He.free_ok X G (c.fact 15 (f := .free "range") rfl))) (mz_tuple := (He.free_ok X G (c.fact 10 (f := .free "tuple") rfl))) cdv A outer s H E hr
  have hs : Sem N__law_lengths (bd__law_lengths G__law_row ) (pN G__law_lengths) := fun ds μ kont h => sem_pure pu__law_lengths ds μ kont h
  exact B_of F sc__law_lengths hw hs (He.glo_ok X G (c.fact 81 (f := .glo "_law_lengths") rfl)) (FunD.bindsN F fun _ _ _ _ _ _ us hl => match us, hl with | [_, _], _ => rfl)
theorem b_B__law_map_now {P : Program} {w : World} {K : PySem.W.Frag} {h base : Heap} {mg : Str → Option Value} (X : K.In h) (G : h.Ns mainGlobals mg) (c : He.SaysD fa fn K) : FnB P w K mg base 1 "_law_map_now" [] 2 (pN G__law_map_now) := by
  obtain ⟨fd, F0⟩ := c.def_ 49 (d := d__law_map_now) rfl
  have F : FnP K "_law_map_now" "_law_map_now" s__law_map_now (He.fAd K ("_law_map_now", none)) fd := F0
  have hw : WkB P w K mg base N__law_map_now "_law_map_now" s__law_map_now 0 (He.fAd K ("_law_map_now", none)) (bd__law_map_now  ) := fun cdv A outer s H E hr => wk__law_map_now (mz_len := (He.free_ok X G (c.fact 12 (f := .free "len") rfl))) (mz_range := (He.free_ok X G (c.fact 15 (f := .free "range") rfl))) (mz_sorted := (He.free_ok X G (c.fact 27 (f := .free "sorted") rfl))) (mz_tuple := (He.free_ok X G (c.fact 10 (f := .free "tuple") rfl))) cdv A outer s H E hr
  have hs : Sem N__law_map_now (bd__law_map_now  ) (pN G__law_map_now) := fun ds μ kont h => sem_pure pu__law_map_now ds μ kont h
  exact B_of F sc__law_map_now hw hs (He.glo_ok X G (c.fact 82 (f := .glo "_law_map_now") rfl)) (FunD.bindsN F fun _ _ _ _ _ _ us hl => match us, hl with | [_, _], _ => rfl)
theorem b_B__law_bounded {P : Program} {w : World} {K : PySem.W.Frag} {h base : Heap} {mg : Str → Option Value} (X : K.In h) (G : h.Ns mainGlobals mg) (c : He.SaysD fa fn K) : FnB P w K mg base 1 "_law_bounded" [] 4 (pN G__law_bounded) := by
  obtain ⟨fd, F0⟩ := c.def_ 50 (d := d__law_bounded) rfl
  have F : FnP K "_law_bounded" "_law_bounded" s__law_bounded (He.fAd K ("_law_bounded", none)) fd := F0
  have hw : WkB P w K mg base N__law_bounded "_law_bounded" s__law_bounded 0 (He.fAd K ("_law_bounded", none)) (bd__law_bounded  ) := fun cdv A outer s H E hr => wk__law_bounded (mz_abs := (He.free_ok X G (c.fact 70 (f := .free "abs") rfl))) (mz_len := (He.free_ok X G (c.fact 12 (f := .free "len") rfl))) (mz_range := (He.free_ok X G (c.fact 15 (f := .free "range") rfl))) cdv A outer s H E hr
  have hs : Sem N__law_bounded (bd__law_bounded  ) (pN G__law_bounded) := fun ds μ kont h => sem_pure pu__law_bounded ds μ kont h
  exact B_of F sc__law_bounded hw hs (He.glo_ok X G (c.fact 83 (f := .glo "_law_bounded") rfl)) (FunD.bindsN F fun _ _ _ _ _ _ us hl => match us, hl with | [_, _, _, _], _ => rfl)
theorem b_B__law_as_anew {P : Program} {w : World} {K : PySem.W.Frag} {h base : Heap} {mg : Str → Option Value} (X : K.In h) (G : h.Ns mainGlobals mg) (c : He.SaysD fa fn K) : FnB P w K mg base 9 "_law_as_anew" [] 4 (S__law_as_anew (He.ga K "Watch")) := by
  obtain ⟨fd, F0⟩ := c.def_ 51 (d := d__law_as_anew) rfl
  have F : FnP K "_law_as_anew" "_law_as_anew" s__law_as_anew (He.fAd K ("_law_as_anew", none)) fd := F0
  have hw : WkB P w K mg base N__law_as_anew "_law_as_anew" s__law_as_anew 8 (He.fAd K ("_law_as_anew", none)) (bd__law_as_anew (S_init (He.ga K "Watch")) (G_Watch_lengths (He.ga K "Watch")) (G_Watch_map (He.ga K "Watch")) G__law_map_now G__law_same G_lengths (He.ga K "Watch")) := fun cdv A outer s H E hr => wk__law_as_anew (B__law_map_now := (b_B__law_map_now X G c)) (B__law_same := (b_B__law_same X G c)) (B_lengths := (b_B_lengths X G c)) (K_Watch := (He.cls_ok (c.fact 45 (f := .cls "Watch") rfl))) (MK_Watch := (b_MK_Watch X G c)) (MT_Watch_lengths := (b_MT_Watch_lengths X G c)) (MT_Watch_map := (b_MT_Watch_map X G c)) cdv A outer s H E hr
  have hs : Sem N__law_as_anew (bd__law_as_anew (S_init (He.ga K "Watch")) (G_Watch_lengths (He.ga K "Watch")) (G_Watch_map (He.ga K "Watch")) G__law_map_now G__law_same G_lengths (He.ga K "Watch")) (S__law_as_anew (He.ga K "Watch")) := fun ds μ kont h => sem__law_as_anew (He.ga K "Watch") ds μ kont h
  exact B_of F sc__law_as_anew hw hs (He.glo_ok X G (c.fact 84 (f := .glo "_law_as_anew") rfl)) (FunD.bindsN F fun _ _ _ _ _ _ us hl => match us, hl with | [_, _, _, _], _ => rfl)
theorem b_B__law_enough_right {P : Program} {w : World} {K : PySem.W.Frag} {h base : Heap} {mg : Str → Option Value} (X : K.In h) (G : h.Ns mainGlobals mg) (c : He.SaysD fa fn K) : FnB P w K mg base 7 "_law_enough_right" [] 4 (S__law_enough_right (He.ga K "Watch")) := by
  obtain ⟨fd, F0⟩ := c.def_ 52 (d := d__law_enough_right) rfl
  have F : FnP K "_law_enough_right" "_law_enough_right" s__law_enough_right (He.fAd K ("_law_enough_right", none)) fd := F0
  have hw : WkB P w K mg base N__law_enough_right "_law_enough_right" s__law_enough_right 6 (He.fAd K ("_law_enough_right", none)) (bd__law_enough_right (S_enough (He.ga K "Watch")) (S_set_length (He.ga K "Watch")) (S_undo (He.ga K "Watch")) S__law_take (G_Watch_lengths (He.ga K "Watch")) G__law_lengths G__law_map_now G__law_same (He.ga K "Watch")) := fun cdv A outer s H E hr => wk__law_enough_right (B__law_lengths := (b_B__law_lengths X G c)) (B__law_map_now := (b_B__law_map_now X G c)) (B__law_same := (b_B__law_same X G c)) (B__law_take := (b_B__law_take X G c)) (K_Watch := (He.cls_ok (c.fact 45 (f := .cls "Watch") rfl))) (MT_Watch_enough := (b_MT_Watch_enough X G c)) (MT_Watch_lengths := (b_MT_Watch_lengths X G c)) (MT_Watch_set_length := (b_MT_Watch_set_length X G c)) (MT_Watch_undo := (b_MT_Watch_undo X G c)) (mz_bool := (He.free_ok X G (c.fact 0 (f := .free "bool") rfl))) (mz_int := (He.free_ok X G (c.fact 1 (f := .free "int") rfl))) (mz_isinstance := (He.free_ok X G (c.fact 2 (f := .free "isinstance") rfl))) (mz_len := (He.free_ok X G (c.fact 12 (f := .free "len") rfl))) (mz_range := (He.free_ok X G (c.fact 15 (f := .free "range") rfl))) cdv A outer s H E hr
  have hs : Sem N__law_enough_right (bd__law_enough_right (S_enough (He.ga K "Watch")) (S_set_length (He.ga K "Watch")) (S_undo (He.ga K "Watch")) S__law_take (G_Watch_lengths (He.ga K "Watch")) G__law_lengths G__law_map_now G__law_same (He.ga K "Watch")) (S__law_enough_right (He.ga K "Watch")) := fun ds μ kont h => sem__law_enough_right (He.ga K "Watch") ds μ kont h
  exact B_of F sc__law_enough_right hw hs (He.glo_ok X G (c.fact 85 (f := .glo "_law_enough_right") rfl)) (FunD.bindsN F fun _ _ _ _ _ _ us hl => match us, hl with | [_, _, _, _], _ => rfl)
theorem b_B__law_life_right {P : Program} {w : World} {K : PySem.W.Frag} {h base : Heap} {mg : Str → Option Value} (X : K.In h) (G : h.Ns mainGlobals mg) (c : He.SaysD fa fn K) : FnBG P w K mg base 10 "_law_life_right" [] 5 (S__law_life_right (He.ga K "Watch")) := by
  obtain ⟨fd, F0⟩ := c.def_ 53 (d := d__law_life_right) rfl
  have F : FnP K "_law_life_right" "_law_life_right" s__law_life_right (He.fAd K ("_law_life_right", none)) fd := F0
  have hw : WkG P w K mg base N__law_life_right "_law_life_right" s__law_life_right 9 (He.fAd K ("_law_life_right", none)) (bd__law_life_right (S_init (He.ga K "Watch")) (S_lines (He.ga K "Watch")) (S_set_length (He.ga K "Watch")) (S_undo (He.ga K "Watch")) (S__law_as_anew (He.ga K "Watch")) (S__law_enough_right (He.ga K "Watch")) S__law_mixed S__law_take (S_read_watch (He.ga K "Watch")) (G_Watch_changes (He.ga K "Watch")) (G_Watch_lengths (He.ga K "Watch")) (G_Watch_map (He.ga K "Watch")) G__law_bounded G__law_lengths G__law_map_now G__law_same (He.ga K "Watch")) := fun cdv A outer s H E hr hG => wk__law_life_right (B__law_as_anew := (b_B__law_as_anew X G c)) (B__law_bounded := (b_B__law_bounded X G c)) (B__law_enough_right := (b_B__law_enough_right X G c)) (B__law_lengths := (b_B__law_lengths X G c)) (B__law_map_now := (b_B__law_map_now X G c)) (B__law_mixed := (b_B__law_mixed X G c)) (B__law_same := (b_B__law_same X G c)) (B__law_take := (b_B__law_take X G c)) (B_read_watch := (b_B_read_watch X G c)) (K_Watch := (He.cls_ok (c.fact 45 (f := .cls "Watch") rfl))) (MK_Watch := (b_MK_Watch X G c)) (MK_Watch_roads := (b_MK_Watch_roads X G c)) (MT_Watch_changes := (b_MT_Watch_changes X G c)) (MT_Watch_lengths := (b_MT_Watch_lengths X G c)) (MT_Watch_lines := (b_MT_Watch_lines X G c)) (MT_Watch_map := (b_MT_Watch_map X G c)) (MT_Watch_set_length := (b_MT_Watch_set_length X G c)) (MT_Watch_set_length_tie_length := (b_MT_Watch_set_length_tie_length X G c)) (MT_Watch_undo := (b_MT_Watch_undo X G c)) (mz_len := (He.free_ok X G (c.fact 12 (f := .free "len") rfl))) (mz_list := (He.free_ok X G (c.fact 9 (f := .free "list") rfl))) (mz_max := (He.free_ok X G (c.fact 78 (f := .free "max") rfl))) (mz_range := (He.free_ok X G (c.fact 15 (f := .free "range") rfl))) (mz_repr := (He.free_ok X G (c.fact 86 (f := .free "repr") rfl))) cdv A outer s H E hr hG
  have hs : Sem N__law_life_right (bd__law_life_right (S_init (He.ga K "Watch")) (S_lines (He.ga K "Watch")) (S_set_length (He.ga K "Watch")) (S_undo (He.ga K "Watch")) (S__law_as_anew (He.ga K "Watch")) (S__law_enough_right (He.ga K "Watch")) S__law_mixed S__law_take (S_read_watch (He.ga K "Watch")) (G_Watch_changes (He.ga K "Watch")) (G_Watch_lengths (He.ga K "Watch")) (G_Watch_map (He.ga K "Watch")) G__law_bounded G__law_lengths G__law_map_now G__law_same (He.ga K "Watch")) (S__law_life_right (He.ga K "Watch")) := fun ds μ kont h => sem__law_life_right (He.ga K "Watch") ds μ kont h
  exact BG_of F sc__law_life_right hw hs (He.glo_ok X G (c.fact 87 (f := .glo "_law_life_right") rfl)) (FunD.bindsN F fun _ _ _ _ _ _ us hl => match us, hl with | [_, _, _, _, _], _ => rfl)
theorem law_G {fd : FuncData} {P : Program} {w : World} {K : PySem.W.Frag} {h base : Heap} {mg : Str → Option Value} (F : FnP K "law" "law" s_law (He.fAd K ("law", none)) fd) (X : K.In h) (G : h.Ns mainGlobals mg) (c : He.SaysD fa fn K) : FnG P w K mg base 11 (He.ga K "law") fd ["script"] (dsp K 1 (S_law (He.ga K "Watch"))) := by
  have hw : WkG P w K mg base N_law "law" s_law 10 (He.fAd K ("law", none)) (bd_law S__law_box (S__law_life_right (He.ga K "Watch")) S__law_long S__law_roads S__law_take G__law_cell ) := fun cdv A outer s H E hr hG => wk_law (B__law_box := (b_B__law_box X G c)) (B__law_cell := (b_B__law_cell X G c)) (B__law_life_right := (b_B__law_life_right X G c)) (B__law_long := (b_B__law_long X G c)) (B__law_roads := (b_B__law_roads X G c)) (B__law_take := (b_B__law_take X G c)) (mz_len := (He.free_ok X G (c.fact 12 (f := .free "len") rfl))) (mz_max := (He.free_ok X G (c.fact 78 (f := .free "max") rfl))) (mz_min := (He.free_ok X G (c.fact 88 (f := .free "min") rfl))) (mz_range := (He.free_ok X G (c.fact 15 (f := .free "range") rfl))) cdv A outer s H E hr hG
  have hs : Sem N_law (bd_law S__law_box (S__law_life_right (He.ga K "Watch")) S__law_long S__law_roads S__law_take G__law_cell ) (S_law (He.ga K "Watch")) := fun ds μ kont h => sem_law (He.ga K "Watch") ds μ kont h

  exact ok_fnG (fun_of F) sc_law (bd_law S__law_box (S__law_life_right (He.ga K "Watch")) S__law_long S__law_roads S__law_take G__law_cell ) hw fun ds μ kont _ h => hs ds μ kont h
end K60
end

section
set_option maxRecDepth 100000
/-! K60_end: the law's promise at the script. -/
namespace K60
open PySem PySem.Spec PyProof.Rows L2 DL
theorem law_at {K : PySem.W.Frag} {C a : Addr} {H : Hp} {ns : List Int} (h : SqL K H a (ns.map V.int)) : dsp K 1 (S_law C) [.ref a] H (fun v _ => v = .bl true) fun _ _ _ => False := by
  refine ⟨fun _ => none, H, fun _ => none, [.scr ns], fun x _ => x = .bl true, ⟨Same.refl _, fun b o z => ?_, fun b m z => ?_⟩, .cons (.scr h) .nil, rfl, ⟨ns, rfl, rfl⟩, fun Hf μ H2 v x _ _ r z => ?_⟩
  · cases (show (none : Option HO) = some o from z)
  · cases (show (none : Option MO) = some m from z)
  · subst z
    cases r
    rfl
theorem law_end {P : Program} {w : World} {K : PySem.W.Frag} {h : Heap} {mg : Str → Option Value} {f : Addr} (X : K.In h) (G : h.Ns mainGlobals mg) (hmg : mg ("law" : Str) = some (.ref f)) (c : He.SaysD fa fn K) :
    ∃ (K' : PySem.W.Frag) (fd : FuncData) (sp : Sp), K'.In h ∧ (∀ (s : Shared) (u : Value), BindsTo s fd ⟨[u], []⟩ [("script", u)]) ∧
      (∀ (H : Hp) (a : Addr) (ns : List Int), ns.length ≤ 63 → Only H → SqL K' H a (ns.map V.int) → sp [.ref a] H (fun v _ => v = .bl true) fun _ _ _ => False) ∧ ∀ base : Heap, K'.In base → base.Ns mainGlobals mg → FnG P w K' mg base 11 f fd ["script"] sp := by
  obtain ⟨i, hi⟩ : ∃ i, fa[i]? = some (.glo "law") := ⟨fa.length - 1, rfl⟩
  have e := hmg.symm.trans (He.glo_ok X G (c.fact i hi))
  cases e
  obtain ⟨fd, F0⟩ := c.def_ 54 (d := d_law) rfl
  refine ⟨K, fd, dsp K 1 (S_law (He.ga K "Watch")), X, fun s u => FunD.bindsA (ps := ["script"]) (show FnP K "law" "law" s_law _ fd from F0) (fun _ _ _ _ _ _ us hl => match us, hl with | [_], _ => rfl) s [u] rfl, fun H a ns _ _ hS => law_at hS, fun base Xb Gb => law_G F0 Xb Gb c⟩
end K60
end

set_option maxRecDepth 100000
namespace K60
open PySem PySem.Spec PyProof.Rows L2 DL

abbrev R : PySem.W.OpenRow := PySem.W.OpenLaw.row PySem.Challenge.rw_mapwide_k60_whole_lengths_as_anew
abbrev hk : PySem.W.Hook := He.hookD 5 fa fn
def ob (s : PySem.W.SharedT) : He.AlD := He.obsDG 5 fa fn (HandSHeadRun.getT s)
theorem ob_eq (s : PySem.W.SharedT) : ob s = hk.obs s.abs := He.obsDG_eq (HandSHeadRun.getT_eq s)
def names : List Str := (["MapError", "InvalidMap", "InvalidText", "InvalidLength", "InvalidTie", "InvalidLine", "NothingToUndo", "DIGITS", "MOST_DIGITS", "BEYOND_DIGITS", "is_integer", "is_count", "is_within", "is_index", "is_short", "is_list", "is_tuple", "in_order", "count_in", "plus", "is_less", "least", "MOST_PLACES", "MOST_TIES", "PLACE_DIGITS", "is_tie", "is_map", "check_map", "map_of", "write_map"] : List Str) ++ (["tie_in", "read_map", "ties_from", "search", "lengths_from", "lengths_of", "lengths", "TIE_DIGITS", "HEAD", "LENGTH", "OUT", "present", "with_length", "shortened", "lengthened", "Watch", "change_in", "read_watch", "_law_cell", "_law_box", "_law_take", "_law_mixed", "_law_same", "_law_grow", "_law_long", "_law_two", "_law_roads", "_law_row", "_law_lengths", "_law_map_now"] : List Str) ++ (["_law_bounded", "_law_as_anew", "_law_enough_right", "_law_life_right"] : List Str)
set_option maxHeartbeats 0 in
theorem run (w : World) : HandSHeadRun.RunEq R (PySem.W.view R.prog [70]) hk ob 20000 names w := by
  intro os
  kernel_rfl
end K60
open PySem PySem.W PySem.Calls PyProof.Rows
set_option maxHeartbeats 0 in
theorem PySem.Challenge.cw_mapwide_k60_whole_lengths_as_anew_holds : PySem.Challenge.rw_mapwide_k60_whole_lengths_as_anew.Holds := by
  w_on; o_law
  refine HandSHeadRun.head_any (r := OpenLaw.row PySem.Challenge.rw_mapwide_k60_whole_lengths_as_anew) (q := view (OpenLaw.row PySem.Challenge.rw_mapwide_k60_whole_lengths_as_anew).prog [70]) (H := K60.hk) (ob := K60.ob) (M := 20000) (loose := K60.names) (d := HandSHeadRun.topDef (OpenLaw.row PySem.Challenge.rw_mapwide_k60_whole_lengths_as_anew).prog 70) (kwd := []) K60.ob_eq
    (by kernel_rfl) (fun s => by kernel_rfl) K60.run (by kernel_rfl) (by kernel_rfl) (by kernel_rfl) (by rfl) (by first | assumption | decide +kernel) (by decide +kernel) ⟨rfl, rfl, rfl, rfl, rfl, by decide +kernel⟩ ?hw ?hc
  case hw => w_witness2
  case hc =>
    refine DL.walk_G (l := PySem.Challenge.rw_mapwide_k60_whole_lengths_as_anew) (n := 63) (k := 11) (x := "script") rfl (by decide) (by kernel_rfl) ⟨rfl, by decide, by decide⟩ ?F
    intro w mg fa h Y G hmg0
    obtain ⟨K, KX, c⟩ := Y
    have hmg : mg ("law" : PySem.Str) = some (.ref fa) := by
      have e : (HandSHeadRun.topDef (OpenLaw.row PySem.Challenge.rw_mapwide_k60_whole_lengths_as_anew).prog 70).name = ("law" : PySem.Str) := by kernel_rfl
      rw [← e]
      exact hmg0
    exact K60.law_end KX G hmg c
